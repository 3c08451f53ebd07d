import PyProof.Rows.All
import HandS.Head0
import HandS.Head1
import HandS.Head2
import HandS.HeadHook4
import HandS.HeadWalk
import PySem.Challenge.RW_steerscreen_k61_tapes_refused
import Wide.All
import OpenK.AllK
import Wide.FinOn
import HandS.ForMost
import HandS.ForExc
import HandS.Evl
import HandS.Wide
import HandS.WideBits
import HandS.Conv
import HandS.TupAny
import HandS.TupMul
import HandS.StrMore
import HandS.ReplaceLit
import HandS.ReplaceList
import HandS.Style
import HandS.Lambda
import HandS.EndTab
import HandS.CallRecv
import HandS.IsInst
import HandS.Steps
import PyProof.Rows.RegReprOcc
import HandS.Strs
import HandS.HotCalls
import HandS.ExcIs
import HandS.ExcCtx
import HandS.ExcValue
import HandS.HeadHook1
import HandS.Zip
set_option Elab.async false
set_option linter.all false
set_option maxRecDepth 100000
set_option maxHeartbeats 4000000
/-! ## Part 1: the split heap: F stands still (but for code tables), L is one's own -/
namespace Ss
open PySem PySem.Spec PyProof.Rows L2

abbrev Gr (F F' : Hp) : Prop := LamX.ExtN F F'
theorem Gr.refl (F : Hp) : Gr F F := LamX.ExtN.refl F
theorem Gr.trans {F F1 F2 : Hp} (a : Gr F F1) (b : Gr F1 F2) : Gr F F2 := LamX.ExtN.trans a b
theorem Gr.of {F F' : Hp} (e : Same F F') : Gr F F' := fun b o h _ => e b o h
theorem Gr.lst {F F' : Hp} (g : Gr F F') {a : Addr} {xs : List V} (h : F a = some (.lst xs)) : F' a = some (.lst xs) := g a _ h (fun _ z => by cases z)
theorem Gr.tup {F F' : Hp} (g : Gr F F') {a : Addr} {xs : List V} (h : F a = some (.tup xs)) : F' a = some (.tup xs) := g a _ h (fun _ z => by cases z)
theorem Gr.ins {F F' : Hp} (g : Gr F F') {a C dx : Addr} {xs : List (Str × V)} (h : F a = some (.ins C dx xs)) : F' a = some (.ins C dx xs) := g a _ h (fun _ z => by cases z)
theorem Gr.sqL {K : PySem.W.Frag} {F F' : Hp} {a : Addr} {xs : List V} (g : Gr F F') (h : SqL K F a xs) : SqL K F' a xs := by
  rcases h with (h | ⟨o, h⟩) | h
  · exact .inl (.inl (g _ _ h (fun _ z => by cases z)))
  · exact .inl (.inr ⟨o, g _ _ h (fun _ z => by cases z)⟩)
  · exact .inr h
theorem Gr.sqT {K : PySem.W.Frag} {F F' : Hp} {a : Addr} {xs : List V} (g : Gr F F') (h : SqT K F a xs) : SqT K F' a xs := by
  rcases h with (h | ⟨o, h⟩) | h
  · exact .inl (.inl (g _ _ h (fun _ z => by cases z)))
  · exact .inl (.inr ⟨o, g _ _ h (fun _ z => by cases z)⟩)
  · exact .inr h
mutual
theorem Gr.dp {K : PySem.W.Frag} {F F' : Hp} (g : Gr F F') : ∀ {d : PyData} {v : V}, Dp K F v d → Dp K F' v d
  | .none, _, h => by cases h; exact .non
  | .bool b, _, h => by cases h; exact .bl b
  | .int i, _, h => by cases h; exact .int i
  | .str x, _, h => by cases h; exact .str x
  | .list ds, _, h => by cases h with | lst hs ha => exact .lst (g.sqL hs) (Gr.dpAll g ha)
  | .tuple ds, _, h => by cases h with | tup hs ha => exact .tup (g.sqT hs) (Gr.dpAll g ha)
  | .dict _, _, h => by cases h
theorem Gr.dpAll {K : PySem.W.Frag} {F F' : Hp} (g : Gr F F') : ∀ {ds : List PyData} {vs : List V}, DpAll K F vs ds → DpAll K F' vs ds
  | [], _, h => by cases h; exact .nil
  | d :: ds, _, h => by cases h with | cons h1 h2 => exact .cons (Gr.dp g h1) (Gr.dpAll g h2)
end

/-- F stands (shared, never written), L is owned (may be written): both lie in H, apart -/
structure Hold (F : Hp) (L : List (Addr × HO)) (H : Hp) : Prop where
  old : ∀ a o, F a = some o → H a = some o
  own : ∀ x ∈ L, H x.1 = some x.2
  sep : ∀ x ∈ L, F x.1 = none
  nd : (L.map (·.1)).Nodup
section
variable {F F' H : Hp} {L L' : List (Addr × HO)} {p a : Addr} {o o' : HO} {i : Nat}
theorem Hold.start (H : Hp) : Hold H [] H := ⟨fun _ _ h => h, fun _ h => (nomatch h), fun _ h => (nomatch h), List.nodup_nil⟩
theorem Hold.gr (W : Hold F L H) : Gr F H := fun a o h _ => W.old a o h
theorem Hold.same (W : Hold F L H) : Same F H := W.old
theorem Hold.fresh (W : Hold F L H) (h : H p = none) : F p = none := by
  cases e : F p with
  | none => rfl
  | some o => rw [W.old p o e] at h; cases h
theorem Hold.freshL (W : Hold F L H) (h : H p = none) : ∀ x ∈ L, x.1 ≠ p := fun x hx e => by
  have := W.own x hx
  rw [e, h] at this; cases this
theorem same_new (h : F p = none) : Same F (upd F p o) := fun b u e => by rw [upd_ne (ne_of_none e h)]; exact e
theorem Hold.alloc (W : Hold F L H) (h : H p = none) : Hold (upd F p o) L (upd H p o) where
  old := fun b u e => by
    by_cases hb : b = p
    · subst hb; rw [upd_same] at e ⊢; exact e
    · rw [upd_ne hb] at e ⊢; exact W.old b u e
  own := fun x hx => by rw [upd_ne (W.freshL h x hx)]; exact W.own x hx
  sep := fun x hx => by rw [upd_ne (W.freshL h x hx)]; exact W.sep x hx
  nd := W.nd
theorem Hold.make (W : Hold F L H) (h : H p = none) : Hold F ((p, o) :: L) (upd H p o) where
  old := fun b u e => by rw [upd_ne (ne_of_none (W.old b u e) h)]; exact W.old b u e
  own := fun x hx => by
    rcases List.mem_cons.mp hx with rfl | hx
    · exact upd_same
    · rw [upd_ne (W.freshL h x hx)]; exact W.own x hx
  sep := fun x hx => by
    rcases List.mem_cons.mp hx with rfl | hx
    · exact W.fresh h
    · exact W.sep x hx
  nd := by
    rw [List.map_cons, List.nodup_cons]
    exact ⟨fun hm => by obtain ⟨x, hx, e⟩ := List.mem_map.mp hm; exact W.freshL h x hx e, W.nd⟩
theorem Hold.freeze (W : Hold F ((p, o) :: L) H) : Hold (upd F p o) L H where
  old := fun b u e => by
    by_cases hb : b = p
    · subst hb; rw [upd_same] at e; cases e; exact W.own _ List.mem_cons_self
    · rw [upd_ne hb] at e; exact W.old b u e
  own := fun x hx => W.own x (List.mem_cons_of_mem _ hx)
  sep := fun x hx => by
    have n := W.nd
    rw [List.map_cons, List.nodup_cons] at n
    rw [upd_ne (fun e => n.1 (List.mem_map.mpr ⟨x, hx, e⟩))]; exact W.sep x (List.mem_cons_of_mem _ hx)
  nd := by have n := W.nd; rw [List.map_cons, List.nodup_cons] at n; exact n.2
theorem Hold.freezeS (W : Hold F ((p, o) :: L) H) : Same F (upd F p o) := same_new (W.sep _ List.mem_cons_self)
theorem Hold.sub (W : Hold F L H) (s : List.Sublist L' L) : Hold F L' H :=
  ⟨W.old, fun x hx => W.own x (s.subset hx), fun x hx => W.sep x (s.subset hx), (s.map _).nodup W.nd⟩
theorem Hold.drop {x : Addr × HO} (W : Hold F (x :: L) H) : Hold F L H := W.sub (List.sublist_cons_self _ _)
theorem Hold.nil (W : Hold F L H) : Hold F [] H := W.sub (List.nil_sublist _)
theorem Hold.perm (W : Hold F L H) (s : List.Perm L L') : Hold F L' H :=
  ⟨W.old, fun x hx => W.own x (s.mem_iff.mpr hx), fun x hx => W.sep x (s.mem_iff.mpr hx), (s.map _).nodup_iff.mp W.nd⟩
theorem Hold.get (W : Hold F L H) (i : Nat) (h : L[i]? = some (a, o)) : H a = some o := W.own (a, o) (List.mem_of_getElem? h)
theorem map_fst_set {l : List (Addr × HO)} (h : l[i]? = some (a, o)) : (l.set i (a, o')).map (·.1) = l.map (·.1) := by
  rw [List.map_set]
  apply List.ext_getElem?
  intro j
  rw [List.getElem?_set]
  split
  · rename_i e; subst e
    split
    · rw [List.getElem?_map, h]; rfl
    · rename_i hl
      rw [List.getElem?_eq_none (by omega)]
  · rfl
theorem key_inj : ∀ {l : List (Addr × HO)}, (l.map (·.1)).Nodup → ∀ x ∈ l, ∀ y ∈ l, x.1 = y.1 → x = y
  | [], _, x, hx, _, _, _ => (nomatch hx)
  | z :: l, n, x, hx, y, hy, e => by
    rw [List.map_cons, List.nodup_cons] at n
    rcases List.mem_cons.mp hx with h1 | h1
    · rcases List.mem_cons.mp hy with h2 | h2
      · rw [h1, h2]
      · exact absurd (List.mem_map.mpr ⟨y, h2, by rw [← e, h1]⟩) n.1
    · rcases List.mem_cons.mp hy with h2 | h2
      · exact absurd (List.mem_map.mpr ⟨x, h1, by rw [e, h2]⟩) n.1
      · exact key_inj n.2 x h1 y h2 e
theorem Hold.put (W : Hold F L H) (i : Nat) (h : L[i]? = some (a, o)) : Hold F (L.set i (a, o')) (upd H a o') where
  old := fun b u e => by
    have hs := W.sep (a, o) (List.mem_of_getElem? h)
    rw [upd_ne (ne_of_none e hs)]; exact W.old b u e
  own := fun x hx => by
    rcases List.mem_or_eq_of_mem_set hx with hx' | rfl
    · by_cases e : x.1 = a
      · -- the key stands once
        have hn : ((L.set i (a, o')).map (·.1)).Nodup := by rw [map_fst_set h]; exact W.nd
        have hi : i < L.length := (List.getElem?_eq_some_iff.mp h).1
        have h1 : (L.set i (a, o'))[i]? = some (a, o') := by rw [List.getElem?_set_self hi]
        have z : x = (a, o') := key_inj hn x hx _ (List.mem_of_getElem? h1) e
        rw [z]; exact upd_same
      · rw [upd_ne e]; exact W.own x hx'
    · exact upd_same
  sep := fun x hx => by
    rcases List.mem_or_eq_of_mem_set hx with hx' | rfl
    · exact W.sep x hx'
    · exact W.sep (a, o) (List.mem_of_getElem? h)
  nd := by rw [map_fst_set h]; exact W.nd
/-- the head of one's own -/
theorem Hold.put0 (W : Hold F ((a, o) :: L) H) : Hold F ((a, o') :: L) (upd H a o') := W.put 0 rfl
theorem Hold.get0 (W : Hold F ((a, o) :: L) H) : H a = some o := W.get 0 rfl
theorem Hold.put1 {x : Addr × HO} (W : Hold F (x :: (a, o) :: L) H) : Hold F (x :: (a, o') :: L) (upd H a o') := W.put 1 rfl
theorem Hold.get1 {x : Addr × HO} (W : Hold F (x :: (a, o) :: L) H) : H a = some o := W.get 1 rfl
/-- a new instance -/
theorem Hold.inst {C dx : Addr} (W : Hold F L H) (h : H p = none) (hd : H dx = none) (ne : dx ≠ p) : Hold F ((p, .ins C dx []) :: L) (upd (upd H dx (.own p)) p (.ins C dx [])) := by
  have W1 : Hold F L (upd H dx (.own p)) := (W.make (o := .own p) hd).drop
  exact W1.make (by rw [upd_ne (Ne.symm ne)]; exact h)
/-- the own ones move over into F, for a call that is not to touch them -/
theorem Hold.more (W : Hold F L H) (g : Gr H H) : True := True.intro
end
end Ss
/-! ## Part 2: one rule an operator, whatever the kinds of its operands; bundles of defs -/
namespace Ss
open PySem PySem.Spec PyProof.Rows L2

/-! ### operators -/
def rAddS : R2 := fun x y H Q => ∃ i j, x = .str i ∧ y = .str j ∧ i.length + j.length ≤ sizeLine ∧ Q (.str (i ++ j)) H
def rAddB : R2 := fun x y H Q => ∃ i k, x = .int i ∧ y = .bl k ∧ Q (.int (i + b2i k)) H
def uAdd (K : PySem.W.Frag) : R2 := fun x y H Q => rI0 (fun i j => .int (i + j)) x y H Q ∨ rAddS x y H Q ∨ rCat x y H Q ∨ rCatA K x y H Q ∨ rAddB x y H Q
def uSub : R2 := rI0 fun i j => .int (i - j)
def rRepS : R2 := fun x y H Q => ∃ a k, x = .str a ∧ y = .int k ∧ -100000 ≤ k ∧ k ≤ 100000 ∧ a.length ≤ 100 ∧ Q (.str (Txt.mul a k)) H
theorem op_repS {X : Cx} : OpR X (binaryOp .Mult) rRepS := by
  intro pins s σ H x y v u Q I rx ry h
  obtain ⟨a, k, rfl, rfl, h1, h2, hl, q⟩ := h
  obtain ⟨t, rfl⟩ := rx
  obtain ⟨t', rfl⟩ := ry
  exact SB.mul (mulOk_of 100 100000 hl h2 (by omega) (by decide) (by decide)) fun t' tk => ⟨.str (Txt.mul a k), H, I.tok _, ⟨_, rfl⟩, q⟩
def uMul (K : PySem.W.Frag) : R2 := fun x y H Q => rI CMulX (fun i j => .int (i * j)) x y H Q ∨ rRep x y H Q ∨ rRepS x y H Q ∨ rRepT K x y H Q
def uDiv : R2 := rI CDivW fun i j => .int (i / j)
def uMod : R2 := rI (fun _ j => 0 < j) fun i j => .int (i % j)
def uPow : R2 := rI CPow fun i j => .int (i ^ j.toNat)
def rLtS : R2 := fun x y H Q => ∃ i j, x = .str i ∧ y = .str j ∧ Q (.bl (decide (i.cps.toList < j.cps.toList))) H
def rLeS : R2 := fun x y H Q => ∃ i j, x = .str i ∧ y = .str j ∧ Q (.bl (!decide (j.cps.toList < i.cps.toList))) H
def uLt : R2 := fun x y H Q => rI0 (fun i j => .bl (decide (i < j))) x y H Q ∨ rLtS x y H Q
def uLe : R2 := fun x y H Q => rI0 (fun i j => .bl (decide (i ≤ j))) x y H Q ∨ rLeS x y H Q
def uGt : R2 := rI0 fun i j => .bl (decide (j < i))
def uGe : R2 := rI0 fun i j => .bl (decide (j ≤ i))
def uEq (K : PySem.W.Frag) : R2 := fun x y H Q => rEq x y H Q ∨ rEqD K x y H Q
def uNe (K : PySem.W.Frag) : R2 := fun x y H Q => rNe x y H Q ∨ rNeD K x y H Q
def rInG : R2 := fun x y H Q => ∃ (c : Nat) (z : Str), x = .str ⟨#[c]⟩ ∧ y = .str z ∧ Q (.bl (decide (c ∈ z.cps.toList))) H
def rNotInG : R2 := fun x y H Q => ∃ (c : Nat) (z : Str), x = .str ⟨#[c]⟩ ∧ y = .str z ∧ Q (.bl (!decide (c ∈ z.cps.toList))) H
def uIn (K : PySem.W.Frag) : R2 := fun x y H Q => rInG x y H Q ∨ rIn K false x y H Q
def uNotIn (K : PySem.W.Frag) : R2 := fun x y H Q => rNotInG x y H Q ∨ rIn K true x y H Q
def uIs : R2 := fun x y H Q => y = .non ∧ Q (.bl (decide (x = .non))) H
def uIsNot : R2 := fun x y H Q => y = .non ∧ Q (.bl (!decide (x = .non))) H
section
variable {X : Cx}
theorem oAdd : OpR X (binaryOp .Add) (uAdd X.K) := by
  intro pins s σ H x y v u Q I rx ry h
  rcases h with h | h | h | h | h
  · exact op_add pins s σ H x y v u Q I rx ry h
  · exact op_add_str pins s σ H x y v u Q I rx ry h
  · exact op_cat pins s σ H x y v u Q I rx ry h
  · exact op_catA pins s σ H x y v u Q I rx ry h
  · exact op_add_ib pins s σ H x y v u Q I rx ry h
theorem oSub : OpR X (binaryOp .Sub) uSub := op_sub
theorem oMul : OpR X (binaryOp .Mult) (uMul X.K) := by
  intro pins s σ H x y v u Q I rx ry h
  rcases h with h | h | h | h
  · exact op_mulX pins s σ H x y v u Q I rx ry h
  · exact op_rep pins s σ H x y v u Q I rx ry h
  · exact op_repS pins s σ H x y v u Q I rx ry h
  · exact op_repT pins s σ H x y v u Q I rx ry h
theorem oDiv : OpR X (binaryOp .FloorDiv) uDiv := op_fdivW
theorem oMod : OpR X (binaryOp .Mod) uMod := op_mod
theorem oPow : OpR X (binaryOp .Pow) uPow := op_pow
theorem oLt : OpR X (compareOp .Lt) uLt := by
  intro pins s σ H x y v u Q I rx ry h
  rcases h with h | h
  · exact op_lt pins s σ H x y v u Q I rx ry h
  · exact op_lt_str pins s σ H x y v u Q I rx ry h
theorem oLe : OpR X (compareOp .LtE) uLe := by
  intro pins s σ H x y v u Q I rx ry h
  rcases h with h | h
  · exact op_le pins s σ H x y v u Q I rx ry h
  · exact op_le_str pins s σ H x y v u Q I rx ry h
theorem oGt : OpR X (compareOp .Gt) uGt := op_gt
theorem oGe : OpR X (compareOp .GtE) uGe := op_ge
theorem oEq (hu : X.A.units + 64 < cLine) : OpR X (compareOp .Eq) (uEq X.K) := by
  intro pins s σ H x y v u Q I rx ry h
  rcases h with h | h
  · exact op_eq pins s σ H x y v u Q I rx ry h
  · exact op_eqD hu pins s σ H x y v u Q I rx ry h
theorem oNe (hu : X.A.units + 64 < cLine) : OpR X (compareOp .NotEq) (uNe X.K) := by
  intro pins s σ H x y v u Q I rx ry h
  rcases h with h | h
  · exact op_ne pins s σ H x y v u Q I rx ry h
  · exact op_neD hu pins s σ H x y v u Q I rx ry h
theorem oIn : OpR X (compareOp .In) (uIn X.K) := by
  intro pins s σ H x y v u Q I rx ry h
  rcases h with h | h
  · exact op_in_sign pins s σ H x y v u Q I rx ry h
  · exact op_in_seq pins s σ H x y v u Q I rx ry h
theorem oNotIn : OpR X (compareOp .NotIn) (uNotIn X.K) := by
  intro pins s σ H x y v u Q I rx ry h
  rcases h with h | h
  · exact op_notIn_sign pins s σ H x y v u Q I rx ry h
  · exact op_notIn_seq pins s σ H x y v u Q I rx ry h
theorem oIs : OpR X (compareOp .Is) uIs := op_isN
theorem oIsNot : OpR X (compareOp .IsNot) uIsNot := op_notN
end

/-! ### leaves of operators -/
section
variable {K : PySem.W.Frag} {H F : Hp} {L : List (Addr × HO)} {Q : VK} {i j : Int} {a b : Str} {p q : Addr} {xs ys : List V} {x y : V} {c : Nat}
theorem l_addI (h : Q (.int (i + j)) H) : uAdd K (.int i) (.int j) H Q := .inl ⟨_, _, rfl, rfl, h⟩
theorem l_addS (hl : a.length + b.length ≤ sizeLine) (h : Q (.str (a ++ b)) H) : uAdd K (.str a) (.str b) H Q := .inr (.inl ⟨_, _, rfl, rfl, hl, h⟩)
theorem l_addL (hp : H p = some (.lst xs)) (hq : H q = some (.lst ys)) (hl : xs.length + ys.length ≤ sizeLine) (h : ∀ r, H r = none → Q (.ref r) (upd H r (.lst (xs ++ ys)))) : uAdd K (.ref p) (.ref q) H Q :=
  .inr (.inr (.inl ⟨_, _, _, _, rfl, rfl, hp, hq, hl, h⟩))
theorem l_addT (hp : SqT K H p xs) (hq : SqT K H q ys) (hl : xs.length + ys.length ≤ sizeLine) (h0 : xs = [] → Q (.ref q) H) (h1 : xs ≠ [] → ys = [] → Q (.ref p) H) (h : xs ≠ [] → ys ≠ [] → ∀ r, H r = none → Q (.ref r) (upd H r (.tup (xs ++ ys)))) : uAdd K (.ref p) (.ref q) H Q :=
  .inr (.inr (.inr (.inl ⟨_, _, _, _, rfl, rfl, hp, hq, hl, h0, h1, h⟩)))
theorem l_addB {k : Bool} (h : Q (.int (i + b2i k)) H) : uAdd K (.int i) (.bl k) H Q := .inr (.inr (.inr (.inr ⟨_, _, rfl, rfl, h⟩)))
theorem l_subI (h : Q (.int (i - j)) H) : uSub (.int i) (.int j) H Q := ⟨_, _, rfl, rfl, h⟩
theorem l_mulI (hc : CMulX i j) (h : Q (.int (i * j)) H) : uMul K (.int i) (.int j) H Q := .inl ⟨_, _, rfl, rfl, hc, h⟩
theorem l_mulL (hp : H p = some (.lst xs)) (h1 : -(2 ^ 63) ≤ j) (h2 : j < 2 ^ 63) (hl : xs.length * j.toNat ≤ sizeLine) (h : ∀ r, H r = none → Q (.ref r) (upd H r (.lst (List.replicate j.toNat xs).flatten))) : uMul K (.ref p) (.int j) H Q :=
  .inr (.inl ⟨_, _, _, rfl, rfl, hp, h1, h2, hl, h⟩)
theorem l_mulS (h1 : -100000 ≤ j) (h2 : j ≤ 100000) (hl : a.length ≤ 100) (h : Q (.str (Txt.mul a j)) H) : uMul K (.str a) (.int j) H Q := .inr (.inr (.inl ⟨_, _, rfl, rfl, h1, h2, hl, h⟩))
theorem l_mulT (hp : SqT K H p xs) (hne : xs ≠ []) (h1 : 2 ≤ j) (h2 : j ≤ 1000) (hl : xs.length ≤ 1000) (h : ∀ r, H r = none → Q (.ref r) (upd H r (.tup (List.replicate j.toNat xs).flatten))) : uMul K (.ref p) (.int j) H Q := .inr (.inr (.inr ⟨_, _, _, rfl, rfl, hp, hne, h1, h2, hl, h⟩))
theorem l_divI (hc : CDivW i j) (h : Q (.int (i / j)) H) : uDiv (.int i) (.int j) H Q := ⟨_, _, rfl, rfl, hc, h⟩
theorem l_modI (hc : 0 < j) (h : Q (.int (i % j)) H) : uMod (.int i) (.int j) H Q := ⟨_, _, rfl, rfl, hc, h⟩
theorem l_powI (hc : CPow i j) (h : Q (.int (i ^ j.toNat)) H) : uPow (.int i) (.int j) H Q := ⟨_, _, rfl, rfl, hc, h⟩
theorem l_ltI (h : Q (.bl (decide (i < j))) H) : uLt (.int i) (.int j) H Q := .inl ⟨_, _, rfl, rfl, h⟩
theorem l_ltS (h : Q (.bl (decide (a.cps.toList < b.cps.toList))) H) : uLt (.str a) (.str b) H Q := .inr ⟨_, _, rfl, rfl, h⟩
theorem l_leI (h : Q (.bl (decide (i ≤ j))) H) : uLe (.int i) (.int j) H Q := .inl ⟨_, _, rfl, rfl, h⟩
theorem l_leS (h : Q (.bl (!decide (b.cps.toList < a.cps.toList))) H) : uLe (.str a) (.str b) H Q := .inr ⟨_, _, rfl, rfl, h⟩
theorem l_gtI (h : Q (.bl (decide (j < i))) H) : uGt (.int i) (.int j) H Q := ⟨_, _, rfl, rfl, h⟩
theorem l_geI (h : Q (.bl (decide (j ≤ i))) H) : uGe (.int i) (.int j) H Q := ⟨_, _, rfl, rfl, h⟩
theorem l_eq (hs : scal x y = true) (h : Q (.bl (decide (x = y))) H) : uEq K x y H Q := .inl ⟨hs, h⟩
theorem l_ne (hs : scal x y = true) (h : Q (.bl (!decide (x = y))) H) : uNe K x y H Q := .inl ⟨hs, h⟩
theorem l_eqD {d e : PyData} (hx : Dp K H x d) (hy : Dp K H y e) (sd : SeqAt.shaped d = true) (se : SeqAt.shaped e = true) (h : Q (.bl (PyData.eqv d e)) H) : uEq K x y H Q := .inr ⟨d, e, hx, hy, sd, se, h⟩
theorem l_neD {d e : PyData} (hx : Dp K H x d) (hy : Dp K H y e) (sd : SeqAt.shaped d = true) (se : SeqAt.shaped e = true) (h : Q (.bl (!PyData.eqv d e)) H) : uNe K x y H Q := .inr ⟨d, e, hx, hy, sd, se, h⟩
theorem l_inS (h : Q (.bl (decide (c ∈ b.cps.toList))) H) : uIn K (.str ⟨#[c]⟩) (.str b) H Q := .inl ⟨c, b, rfl, rfl, h⟩
theorem l_niS (h : Q (.bl (!decide (c ∈ b.cps.toList))) H) : uNotIn K (.str ⟨#[c]⟩) (.str b) H Q := .inl ⟨c, b, rfl, rfl, h⟩
theorem l_inT (hp : SqL K H p xs ∨ SqT K H p xs) (hx : flatV x = true) (ha : xs.all flatV = true) (h : Q (.bl (inV x xs)) H) : uIn K x (.ref p) H Q := .inr ⟨p, xs, rfl, hp, hx, ha, h⟩
theorem l_niT (hp : SqL K H p xs ∨ SqT K H p xs) (hx : flatV x = true) (ha : xs.all flatV = true) (h : Q (.bl (!inV x xs)) H) : uNotIn K x (.ref p) H Q := .inr ⟨p, xs, rfl, hp, hx, ha, h⟩
theorem l_is (h : Q (.bl (decide (x = .non))) H) : uIs x .non H Q := ⟨rfl, h⟩
theorem l_isn (h : Q (.bl (!decide (x = .non))) H) : uIsNot x .non H Q := ⟨rfl, h⟩
end

/-! ### subscripts, slices, built-ins -/
def uIx (K : PySem.W.Frag) : R2 := rIx K
def uSl (K : PySem.W.Frag) : V → Option Int → Option Int → Hp → VK → Prop := fun x lo hi H Q => rSlL K x lo hi H Q ∨ rSlS x lo hi H Q ∨ rSlA K x lo hi H Q
def uLen (K : PySem.W.Frag) : List V → Hp → VK → Prop := fun xs H Q => (∃ x n, xs = [x] ∧ LenV K x H n ∧ Q (.int n) H) ∨ ∃ a kvs, xs = [V.ref a] ∧ H a = some (.dK kvs) ∧ Q (.int kvs.length) H
def uInt : List V → Hp → VK → Prop := fun xs H Q => (∃ i, xs = [.int i] ∧ Q (.int i) H) ∨ (∃ k, xs = [.bl k] ∧ Q (.int (if k then 1 else 0)) H) ∨ ∃ a n, xs = [.str a] ∧ PySem.intText? a = some n ∧ a.length ≤ 640 ∧ Q (.int n) H
def uStr : List V → Hp → VK → Prop := fun xs H Q => ∃ i, xs = [.int i] ∧ i.natAbs.log2 < 1920 ∧ Q (.str (toString i)) H
def uMax : List V → Hp → VK → Prop := fun xs H Q => ∃ i j, xs = [.int i, .int j] ∧ Q (.int (if j > i then j else i)) H
def uMin : List V → Hp → VK → Prop := fun xs H Q => ∃ i j, xs = [.int i, .int j] ∧ Q (.int (if j < i then j else i)) H
def uOrd : List V → Hp → VK → Prop := fun xs H Q => ∃ x, xs = [.str x] ∧ x.length = 1 ∧ Q (.int (x.cps.getD 0 0 : Nat)) H
def uList (K : PySem.W.Frag) : List V → Hp → VK → Prop := fun xs H Q => ∃ p ys, xs = [.ref p] ∧ (SqL K H p ys ∨ SqT K H p ys) ∧ ∀ l, H l = none → Q (.ref l) (upd H l (.lst ys))
def uTuple (K : PySem.W.Frag) : List V → Hp → VK → Prop := fun xs H Q => ∃ p ys, xs = [.ref p] ∧ ((SqL K H p ys ∧ ∀ l, H l = none → Q (.ref l) (upd H l (.tup ys))) ∨ (SqT K H p ys ∧ Q (.ref p) H))
section
variable {X : Cx}
theorem iIx : IxR X (uIx X.K) := ix_seq
theorem sSl : SlR X (uSl X.K) := by
  intro pins s σ H x v vl vu lo hi sl Q I rx hs pl pu h
  rcases h with h | h | h
  · exact sl_list pins s σ H x v vl vu lo hi sl Q I rx hs pl pu h
  · exact sl_str pins s σ H x v vl vu lo hi sl Q I rx hs pl pu h
  · exact sl_tupA pins s σ H x v vl vu lo hi sl Q I rx hs pl pu h
theorem cLen : CallR X (.builtin "len") (uLen X.K) := by
  intro pins s σ H xs us Q I r h
  rcases h with h | h
  · exact call_len pins s σ H xs us Q I r h
  · exact call_lenD pins s σ H xs us Q I r h
theorem cInt : CallR X (.type "int") uInt := by
  intro pins s σ H xs us Q I r h
  rcases h with h | h | h
  · exact call_int1 pins s σ H xs us Q I r (.inl h)
  · exact call_int1 pins s σ H xs us Q I r (.inr h)
  · exact call_int_str pins s σ H xs us Q I r h
theorem cStr : CallR X (.type "str") uStr := call_str_int
theorem cMax (hc : X.calm = true) : CallR X (.builtin "max") uMax := call_max2 hc
theorem cMin (hc : X.calm = true) : CallR X (.builtin "min") uMin := call_min2 hc
theorem cOrd : CallR X (.builtin "ord") uOrd := call_ord
theorem cList : CallR X (.type "list") (uList X.K) := call_list_of
theorem cTuple : CallR X (.type "tuple") (uTuple X.K) := call_tuple_of
end
end Ss
/-! ## Part 3: leaves of subscripts, built-ins; displays; calls; one step lemma a construct -/
namespace Ss
open PySem PySem.Spec PyProof.Rows L2

section
variable {K : PySem.W.Frag} {H F : Hp} {L : List (Addr × HO)} {Q : VK} {i j : Int} {a b : Str} {p q : Addr} {xs ys : List V} {x y v : V} {c : Nat} {lo hi : Option Int}
theorem l_ixL (hp : SqL K H p xs) (ha : atI xs i = some v) (h : Q v H) : uIx K (.ref p) (.int i) H Q := .inl ⟨_, _, _, _, rfl, rfl, hp, ha, h⟩
theorem l_ixT (hp : SqT K H p xs) (ha : atI xs i = some v) (h : Q v H) : uIx K (.ref p) (.int i) H Q := .inr (.inl ⟨_, _, _, _, rfl, rfl, hp, ha, h⟩)
theorem l_ixS (hl : a.length ≤ sizeLine) (ha : atI a.cps.toList i = some c) (h : Q (.str ⟨#[c]⟩) H) : uIx K (.str a) (.int i) H Q := .inr (.inr ⟨_, _, _, rfl, rfl, hl, ha, h⟩)
theorem l_slL (hp : SqL K H p xs) (h : ∀ r, H r = none → Q (.ref r) (upd H r (.lst (cutV xs lo hi)))) : uSl K (.ref p) lo hi H Q := .inl ⟨_, _, rfl, hp, h⟩
theorem l_slS (hl : a.length ≤ sizeLine) (h : Q (.str (cutS a lo hi)) H) : uSl K (.str a) lo hi H Q := .inr (.inl ⟨_, rfl, hl, h⟩)
theorem l_slT (hp : SqT K H p xs) (h1 : HT.sIx xs.length 0 lo = 0 ∧ HT.sIx xs.length xs.length hi = xs.length → Q (.ref p) H)
    (h2 : ¬ (HT.sIx xs.length 0 lo = 0 ∧ HT.sIx xs.length xs.length hi = xs.length) → ∀ r, H r = none → Q (.ref r) (upd H r (.tup (cutV xs lo hi)))) : uSl K (.ref p) lo hi H Q := .inr (.inr ⟨_, _, rfl, hp, h1, h2⟩)
theorem l_lenL (hp : SqL K H p xs) (h : Q (.int xs.length) H) : uLen K [.ref p] H Q := .inl ⟨_, _, rfl, .inl ⟨_, hp, rfl⟩, h⟩
theorem l_lenT (hp : SqT K H p xs) (h : Q (.int xs.length) H) : uLen K [.ref p] H Q := .inl ⟨_, _, rfl, .inr ⟨_, hp, rfl⟩, h⟩
theorem l_lenS (hl : a.length ≤ sizeLine) (h : Q (.int a.length) H) : uLen K [.str a] H Q := .inl ⟨_, _, rfl, ⟨hl, rfl⟩, h⟩
theorem l_lenD {kvs : List (Key × V)} (hp : H p = some (.dK kvs)) (h : Q (.int kvs.length) H) : uLen K [.ref p] H Q := .inr ⟨_, _, rfl, hp, h⟩
theorem l_intI (h : Q (.int i) H) : uInt [.int i] H Q := .inl ⟨_, rfl, h⟩
theorem l_intB {k : Bool} (h : Q (.int (if k then 1 else 0)) H) : uInt [.bl k] H Q := .inr (.inl ⟨_, rfl, h⟩)
theorem l_intS (hn : PySem.intText? a = some i) (hl : a.length ≤ 640) (h : Q (.int i) H) : uInt [.str a] H Q := .inr (.inr ⟨_, _, rfl, hn, hl, h⟩)
theorem l_str (hn : i.natAbs.log2 < 1920) (h : Q (.str (toString i)) H) : uStr [.int i] H Q := ⟨_, rfl, hn, h⟩
theorem l_max (h : Q (.int (max i j)) H) : uMax [.int i, .int j] H Q := ⟨_, _, rfl, by
  have e : (if j > i then j else i) = max i j := by split <;> omega
  rw [e]; exact h⟩
theorem l_min (h : Q (.int (min i j)) H) : uMin [.int i, .int j] H Q := ⟨_, _, rfl, by
  have e : (if j < i then j else i) = min i j := by split <;> omega
  rw [e]; exact h⟩
theorem l_ord (h : Q (.int (c : Nat)) H) : uOrd [.str ⟨#[c]⟩] H Q := ⟨_, rfl, rfl, h⟩
theorem l_list (hp : SqL K H p xs ∨ SqT K H p xs) (h : ∀ r, H r = none → Q (.ref r) (upd H r (.lst xs))) : uList K [.ref p] H Q := ⟨_, _, rfl, hp, h⟩
theorem l_tupleL (hp : SqL K H p xs) (h : ∀ r, H r = none → Q (.ref r) (upd H r (.tup xs))) : uTuple K [.ref p] H Q := ⟨_, _, rfl, .inl ⟨hp, h⟩⟩
theorem l_tupleT (hp : SqT K H p xs) (h : Q (.ref p) H) : uTuple K [.ref p] H Q := ⟨_, _, rfl, .inr ⟨hp, h⟩⟩
end

/-! ### a new object, told at once into F (never written) or into L (one's own) -/
def NewF (o : HO) (H : Hp) (Q : VK) : Prop := ∀ r, H r = none → Q (.ref r) (upd H r o)
section
variable {F H : Hp} {L : List (Addr × HO)} {o : HO} {Q : VK}
theorem newF (W : Hold F L H) (h : ∀ (r : Addr) (F' H' : Hp), Same F F' → F' r = some o → Hold F' L H' → F r = none → Q (.ref r) H') : ∀ r, H r = none → Q (.ref r) (upd H r o) := fun r hr =>
  h r _ _ (same_new (W.fresh hr)) upd_same (W.alloc hr) (W.fresh hr)
theorem newL (W : Hold F L H) (h : ∀ (r : Addr) (H' : Hp), Hold F ((r, o) :: L) H' → Q (.ref r) H') : ∀ r, H r = none → Q (.ref r) (upd H r o) := fun r hr =>
  h r _ (W.make hr)
end

/-! ### a module's constant; calls of defs, methods, classes by one bundle each -/
/-- the module's name x holds v -/
def GlobV (mg : Str → Option Value) (x : Str) (v : V) : Prop := ∃ u, mg x = some u ∧ RelV v u
/-- a call's reading -/
def tF (sp : Sp) (E : XK) (t : TA) : TE := fun σ H Q => t σ H fun vs H1 => sp vs H1 Q E
def tO (C : Addr) (m : Str) (sp : Sp) (E : XK) (ta : TE) (t : TA) : TE := fun σ H Q => ta σ H fun x H1 => ∃ a dx fs, x = .ref a ∧ H1 a = some (.ins C dx fs) ∧ fs.lookup m = none ∧ t σ H1 fun vs H2 => sp (x :: vs) H2 Q E
def tN (C : Addr) (sp : Sp) (E : XK) (t : TA) : TE := fun σ H Q => t σ H fun vs H1 => ∀ x dx, H1 x = none → H1 dx = none → dx ≠ x → sp (.ref x :: vs) (upd (upd H1 dx (.own x)) x (.ins C dx [])) (fun v H2 => v = .non ∧ Q (.ref x) H2) E
/-- a def of the module -/
structure DefX (P : Program) (w : World) (K : PySem.W.Frag) (mg : Str → Option Value) (base : Heap) (CX : CXT) (x : Str) (k : Nat) (ps : List Str) (sp : Sp) : Prop where
  ex : ∃ (f : Addr) (fd : FuncData), FnOk P w K mg base CX k f fd ps sp ∧ mg x = some (.ref f) ∧ PySem.W.keepIn K (.ref f) = true ∧ Binds K fd ps []
/-- a method of the class at C -/
structure MethX (P : Program) (w : World) (K : PySem.W.Frag) (mg : Str → Option Value) (base : Heap) (CX : CXT) (C : Addr) (m : Str) (k : Nat) (ps : List Str) (sp : Sp) : Prop where
  ex : ∃ (f : Addr) (fd : FuncData), FnOk P w K mg base CX k f fd ps sp ∧ Cls K C ∧ Meth K C m f ∧ Binds K fd ps []
/-- the class named x, at C, by its __init__ -/
structure InitX (P : Program) (w : World) (K : PySem.W.Frag) (mg : Str → Option Value) (base : Heap) (CX : CXT) (x : Str) (C : Addr) (k : Nat) (ps : List Str) (sp : Sp) : Prop where
  ex : ∃ (f : Addr) (fd : FuncData), FnOk P w K mg base CX k f fd ps sp ∧ Mk K C f ∧ mg x = some (.ref C) ∧ Binds K fd ps []
section
variable {X : Cx} {CX : CXT} {x m : Str} {k k' : Nat} {ps : List Str} {sp : Sp} {E : XK} {C : Addr} {v : V} {p pos apos : Pos} {e o : Expr} {es : List Expr} {t : TA} {to : TE}
theorem pe_gv (g : GlobV X.mg x v) (hg : Gl X x := by rfl) (hdb : (x == ("__debug__" : Str)) = false := by decide) : PE X (.Name x pos) (tC v) := by
  obtain ⟨u, h, r⟩ := g
  exact pe_glob hg h r hdb
theorem pe_f (D : DefX X.prog X.w X.K X.mg X.base CX x k ps sp) (hr : Room k' X.A) (hk : k ≤ k') (hx : Passes CX X E) (ha : PA X (e :: es) t) (hg : Gl X x := by rfl) (hdb : (x == ("__debug__" : Str)) = false := by decide)
    (he : starEach (e :: es) X.env = (false, eval e X.env) :: starEach es X.env := by rfl) (hpl : (backTo pos (starEach es X.env)).any (·.1) = false := by rfl) : PE X (.Call (.Name x p) (e :: es) [] pos) (tF sp E t) := by
  obtain ⟨f, fd, F, h1, h2, b⟩ := D.ex
  have z := pe_call (p := p) (pos := pos) F (hr.mono hk) hg h1 h2 b .nil hx ha hdb he hpl
  have ez : tCall sp [] E t = tF sp E t := by
    funext σ H Q
    unfold tCall tF
    simp only [List.append_nil]
  rw [← ez]; exact z
theorem pe_f0 (D : DefX X.prog X.w X.K X.mg X.base CX x k ps sp) (hr : Room k' X.A) (hk : k ≤ k') (hx : Passes CX X E) (hg : Gl X x := by rfl) (hdb : (x == ("__debug__" : Str)) = false := by decide) : PE X (.Call (.Name x p) [] [] pos) (tF sp E tNil) := by
  obtain ⟨f, fd, F, h1, h2, b⟩ := D.ex
  have z := pe_call0 (p := p) (pos := pos) F (hr.mono hk) hg h1 h2 b .nil hx hdb
  have ez : tCall sp [] E tNil = tF sp E tNil := by
    funext σ H Q
    unfold tCall tF
    simp only [List.append_nil]
  rw [← ez]; exact z
theorem pe_o {pl : Sem Bool} (D : MethX X.prog X.w X.K X.mg X.base CX C m k ps sp) (hr : Room k' X.A) (hk : k ≤ k') (hx : Passes CX X E) (ho : PE X o to) (ha : PA X (e :: es) t)
    (hst : starEach (e :: es) X.env = (false, eval e X.env) :: starEach es X.env := by rfl) (hpl : (backTo pos (starEach es X.env)).any (·.1) = false := by rfl)
    (ht : eval (.Call (.Attribute o m apos) (e :: es) [] pos) X.env = (do
      let ov ← eval o X.env
      standAt apos.atName
      let (f, first) ← holding [ov] (getMethod ov m pl)
      callWith pos f first (backTo pos (starEach (e :: es) X.env)) (backToKw pos (keywordEach [] X.env))) := by rfl) : PE X (.Call (.Attribute o m apos) (e :: es) [] pos) (tO C m sp E to t) := by
  obtain ⟨f, fd, F, c, hm, b⟩ := D.ex
  have z := pe_meth (apos := apos) (pos := pos) (e := e) (es := es) ho c hm F (hr.mono hk) b .nil hx ha hst hpl ht
  have ez : tMeth C m sp [] E to t = tO C m sp E to t := by
    funext σ H Q
    unfold tMeth tO
    simp only [List.append_nil]
  rw [← ez]
  exact z
theorem pe_o0 {pl : Sem Bool} (D : MethX X.prog X.w X.K X.mg X.base CX C m k ps sp) (hr : Room k' X.A) (hk : k ≤ k') (hx : Passes CX X E) (ho : PE X o to)
    (ht : eval (.Call (.Attribute o m apos) [] [] pos) X.env = (do
      let ov ← eval o X.env
      standAt apos.atName
      let (f, first) ← holding [ov] (getMethod ov m pl)
      callWith pos f first (backTo pos (starEach [] X.env)) (backToKw pos (keywordEach [] X.env))) := by rfl) : PE X (.Call (.Attribute o m apos) [] [] pos) (tO C m sp E to tNil) := by
  obtain ⟨f, fd, F, c, hm, b⟩ := D.ex
  have z := pe_meth0 (apos := apos) (pos := pos) ho c hm F (hr.mono hk) b .nil hx ht
  have ez : tMeth C m sp [] E to tNil = tO C m sp E to tNil := by
    funext σ H Q
    unfold tMeth tO
    simp only [List.append_nil]
  rw [← ez]
  exact z
theorem pe_n (D : InitX X.prog X.w X.K X.mg X.base CX x C k ps sp) (hr : Room k' X.A) (hk : k + 1 ≤ k') (hx : Passes CX X E) (ha : PA X (e :: es) t) (hg : Gl X x := by rfl) (hdb : (x == ("__debug__" : Str)) = false := by decide)
    (he : starEach (e :: es) X.env = (false, eval e X.env) :: starEach es X.env := by rfl) (hpl : (backTo pos (starEach es X.env)).any (·.1) = false := by rfl) : PE X (.Call (.Name x p) (e :: es) [] pos) (tN C sp E t) := by
  obtain ⟨f, fd, F, M, h1, b⟩ := D.ex
  have z := pe_make (p := p) (pos := pos) M F (hr.mono hk) hg h1 b .nil hx ha hdb he hpl
  have ez : tMake C sp [] E t = tN C sp E t := by
    funext σ H Q
    unfold tMake tN
    simp only [List.append_nil]
  rw [← ez]; exact z
theorem pe_n0 (D : InitX X.prog X.w X.K X.mg X.base CX x C k ps sp) (hr : Room k' X.A) (hk : k + 1 ≤ k') (hx : Passes CX X E) (hg : Gl X x := by rfl) (hdb : (x == ("__debug__" : Str)) = false := by decide) : PE X (.Call (.Name x p) [] [] pos) (tN C sp E tNil) := by
  obtain ⟨f, fd, F, M, h1, b⟩ := D.ex
  have z := pe_make0 (p := p) (pos := pos) M F (hr.mono hk) hg h1 b .nil hx hdb
  have ez : tMake C sp [] E tNil = tN C sp E tNil := by
    funext σ H Q
    unfold tMake tN
    simp only [List.append_nil]
  rw [← ez]; exact z
end
end Ss
/-! ## Part 4: texts' methods, isinstance, raise; what is asked of a reading -/
namespace Ss
open PySem PySem.Spec PyProof.Rows L2

def u_split : V → List V → Hp → VK → Prop := fun x xs H Q => ∃ a b, x = .str a ∧ xs = [.str b] ∧ (b.length == 0) = false ∧ a.length + 2 ≤ sizeLine ∧ rNewStrs (Txt.split a b) H Q
def u_count : V → List V → Hp → VK → Prop := fun x xs H Q => ∃ a b, x = .str a ∧ xs = [.str b] ∧ Q (.int (Txt.count a b)) H
def u_find : V → List V → Hp → VK → Prop := fun x xs H Q => ∃ a b, x = .str a ∧ xs = [.str b] ∧ Q (.int (Txt.find a b)) H
def u_join (K : PySem.W.Frag) : V → List V → Hp → VK → Prop := fun x xs H Q => ∃ a p, ∃ ys : List Str, x = .str a ∧ xs = [.ref p] ∧ (SqL K H p (ys.map V.str) ∨ SqT K H p (ys.map V.str)) ∧ (ys.map (·.length)).sum + ys.length * a.length ≤ 16777216 ∧ Q (.str (Txt.join a ys)) H
def u_rstrip : V → List V → Hp → VK → Prop := fun x xs H Q => ∃ a b, x = .str a ∧ xs = [.str b] ∧ a.length ≤ sizeLine ∧ Q (.str (Txt.rstripChars a b)) H
def tIsTy (K : PySem.W.Frag) (ta : TE) (T : String) : TE := fun σ H Q => ta σ H fun x H1 => rIsi K [x, .ty T] H1 Q
theorem l_isTy {K : PySem.W.Frag} {x : V} {H : Hp} {Q : VK} {t T : String} {b : Bool} (ty : TyX K H x (.type t)) (h : kitB t T = some b) (q : Q (.bl b) H) : rIsi K [x, .ty T] H Q := ⟨x, .ty T, .type t, .type T, b, rfl, .ty T, ty, kit_ty h, q⟩
section
variable {X : Cx} {o e a : Expr} {to te ta : TE} {apos pos : Pos}
theorem pe_usplit (ho : PE X o to) (he : PE X e te) (hs : starEach [e] X.env = [(false, eval e X.env)] := by rfl) (hbase : attributeBase o "split" X.env (eval o X.env) = eval o X.env := by rfl) (hline : (apos.endLine == pos.line) = true := by rfl) :
    PE X (.Call (.Attribute o "split" apos) [e] [] pos) (tM1 u_split to te) := pe_split ho he hs hbase hline
theorem pe_ucount (ho : PE X o to) (he : PE X e te) (hs : starEach [e] X.env = [(false, eval e X.env)] := by rfl) (hbase : attributeBase o "count" X.env (eval o X.env) = eval o X.env := by rfl) (hline : (apos.endLine == pos.line) = true := by rfl) :
    PE X (.Call (.Attribute o "count" apos) [e] [] pos) (tM1 u_count to te) := pe_m1 F.slot_str_count F.type_str_count mt_count ho he hs hbase hline
theorem pe_ufind (ho : PE X o to) (he : PE X e te) (hs : starEach [e] X.env = [(false, eval e X.env)] := by rfl) (hbase : attributeBase o "find" X.env (eval o X.env) = eval o X.env := by rfl) (hline : (apos.endLine == pos.line) = true := by rfl) :
    PE X (.Call (.Attribute o "find" apos) [e] [] pos) (tM1 u_find to te) := pe_m1 F.slot_str_find F.type_str_find mt_find ho he hs hbase hline
theorem pe_ujoin (ho : PE X o to) (he : PE X e te) (hs : starEach [e] X.env = [(false, eval e X.env)] := by rfl) (hbase : attributeBase o "join" X.env (eval o X.env) = eval o X.env := by rfl) (hline : (apos.endLine == pos.line) = true := by rfl) :
    PE X (.Call (.Attribute o "join" apos) [e] [] pos) (tM1 (u_join X.K) to te) := pe_join ho he hs hbase hline
theorem pe_sc {x y : Str} {j : Nat} (h : x = y) : PE X (.Constant (.str x) j pos) (tC (.str y)) := by subst h; exact pe_str
theorem pe_isTy {T : String} {p tp : Pos} (ha : PE X a ta) (hg : Gl X "isinstance") (hm : X.mg "isinstance" = none) {xT : Str} (gT : Gl X xT) (mT : X.mg xT = none) (vT : bootBuiltins xT = some (.type T))
    (he : starEach [a, .Name xT tp] X.env = (false, eval a X.env) :: starEach [.Name xT tp] X.env := by rfl) (hpl : (backTo pos (starEach [.Name xT tp] X.env)).any (·.1) = false := by rfl)
    (hn : xT ≠ "__name__" := by decide) (hdb : (xT == ("__debug__" : Str)) = false := by decide) : PE X (.Call (.Name "isinstance" p) [a, .Name xT tp] [] pos) (tIsTy X.K ta T) := by
  have z : PE X (.Name xT tp) (tC (.ty T)) := pe_bltn (u := .type T) gT mT vT rfl hn hdb
  exact pe_callB (p := p) (pos := pos) (call_isi (X := X)) hg hm (by decide +kernel) (pa_cons ha (pa_cons z pa_nil) he) (by decide) (by decide) he hpl
theorem pe_replIx {y z y' z' : Str} {j k k0 : Nat} {i : Int} {c0 c1 p1 p2 : Pos} (ha : PE X a ta) (hy : y = y') (hz : z = z') (hyz : (y == z) = false)
    (hst : starEach [.Constant (.str y) j c0, .Constant (.str z) k c1] X.env = [(false, eval (.Constant (.str y) j c0) X.env), (false, eval (.Constant (.str z) k c1) X.env)] := by rfl)
    (hbase : attributeBase (.Subscript a (.Constant (.int i) k0 p1) p2) "replace" X.env (eval (.Subscript a (.Constant (.int i) k0 p1) p2) X.env) = eval (.Subscript a (.Constant (.int i) k0 p1) p2) X.env := by rfl) (hline : (apos.endLine == pos.line) = true := by rfl) :
    PE X (.Call (.Attribute (.Subscript a (.Constant (.int i) k0 p1) p2) "replace" apos) [.Constant (.str y) j c0, .Constant (.str z) k c1] [] pos) (CwR.tReplC (tOp (uIx X.K) ta (tC (.int i))) y' z') := by
  subst hy; subst hz
  refine ⟨fun pins s σ H Q I h => ?_⟩
  have hr : wpAny (model X.prog X.w) X.A (eval (.Subscript a (.Constant (.int i) k0 p1) p2) X.env) (fun v s1 => 1 ≤ s1.toks ∧ EP X pins σ (fun v H1 => ∃ x, v = .str x ∧ x.length + (x.length + 1) * z.length ≤ 16777216 ∧ Q (.str (Txt.replace x y z)) H1) v s1) X.xe s := by
    refine Subscript_ (thn (ha.run pins s σ H _ I h) fun v s1 ⟨x, H1, I1, r1, q1⟩ => ?_)
    refine wpAny_Constant_int ?_
    have w := iIx (X := X) a (.Constant (.int i) k0 p1) pins { s1 with toks := s1.toks + 1 } σ H1 x (.int i) v (.int i s1.toks) _ (I1.tok _) r1 ⟨_, rfl⟩ q1 rfl
    refine wpAny_mono (wpAny_toks_of (n := s1.toks + 1) (Nat.le_refl _) w) (fun v s2 q => ⟨by have := q.1; omega, q.2⟩) fun e s2 q => q.2
  refine PySem.Call_method2 hbase hst hline (wpAny_mono hr (fun v s1 q => ?_) fun _ _ z => z)
  obtain ⟨hk, v', H1, I1, r1, x, e1, hb, q⟩ := q
  subst e1
  obtain ⟨tx, e2⟩ := r1
  subst e2
  refine ⟨"str", _, PySem.F.plainAttrs_str, PySem.F.slot_str_replace, PySem.F.type_str_replace, typeIs_str _ _ _, (fun _ e => nomatch e), Calls.callWith_builtin rfl (Calls.evalArgs_plain (Calls.spliced_cons ?_))⟩
  refine Calls.Constant_str (Calls.spliced_cons (Calls.Constant_str (Calls.spliced_nil ?_)))
  exact PySem.SC.replace (by show s1.toks ≠ 0; omega) (by show s1.toks + 1 ≠ 0; omega) (by show s1.toks ≠ s1.toks + 1; omega) hyz hb fun t' k => ⟨.str (Txt.replace x y z), H1, I1.tok k, ⟨t', rfl⟩, q⟩
end

/-! ### raise X('..') -/
/-- what the top has made of an own error class without __init__ -/
structure ErrX (K : PySem.W.Frag) (mg : Str → Option Value) (x : Str) (C : Addr) : Prop where
  ex : PySem.W.excIn K C [.type "ValueError", .type "Exception", .type "BaseException", .type "object"] "ValueError.__new__" = true
  g : mg x = some (.ref C)
  kp : PySem.W.keepIn K (.ref C) = true
  sub : PySem.W.subIn K (.ref C) (.type "BaseException") = some true
  ty : PySem.W.typeIn K (.ref C) = some (.type "type")
def tRz (C : Addr) (E : XK) : TS := fun _ _ H => E (.ref C) none H
theorem ps_rz {X : Cx} {x : Str} {m : Str} {j : Nat} {p p2 pos pos' : Pos} {C : Addr} {E : XK} (e : ErrX X.K X.mg x C) (tk : Takes X (fun cls d _ H => E cls d H)) (hc : X.calm = true := by rfl) (hg : Gl X x := by rfl) (hdb : (x == ("__debug__" : Str)) = false := by decide) :
    PS X (.Raise (some (.Call (.Name x p) [.Constant (.str m) j p2] [] pos)) none pos') (tRz C E) := L2.ps_raise hc tk (L2.pmk_own PySem.F.excBase_ValueError e.ex e.g e.kp (raises_own e.sub e.ty) hg hdb)
theorem passE {P : Program} {w : World} {K : PySem.W.Frag} {mg : Str → Option Value} {base : Heap} {N : List Str} {qual : Str} {scope : Scope} {f : Addr} {cd : Value} {A : Around} {outer : List Env} {s : Shared} {H : Hp} {E : XK} :
    Passes (L2.CX P w) (cxOf (L2.CX P w) P w K mg base N qual scope f cd A outer s H E) E := passes_call (takes_of rfl rfl rfl rfl) (fun _ _ _ _ h => h)

/-- what is asked of a reading t of a def with the names N: it keeps the promise sp -/
def RD (N : List Str) (t : XK → TS) (sp : Sp) : Prop := ∀ vs H Q E, sp vs H Q E → t E { nx := fun _ H' => Q .non H', rt := Q } (start N vs) H
/-- where the classes stand -/
structure Ctx where
  K : PySem.W.Frag
  cScreenError : Addr
  cBadText : Addr
  cBadSize : Addr
  cBadPlace : Addr
  cBadPage : Addr
  cBadPane : Addr
  cBadTick : Addr
  cNothing : Addr
  cReader : Addr
  cRow : Addr
  cScreen : Addr
  cLine : Addr
  cPanes : Addr
  cTape : Addr
  aPLAIN : Addr
  aBLANK : Addr
  aUPRIGHT : Addr
  aLEVEL : Addr
  tabs : List (Addr × Str) := []
end Ss
/-! ## Part 5: a reading, step by step: one lemma a construct -/
namespace Ss
open PySem PySem.Spec PyProof.Rows L2
def aTup (xs : List V) (H : Hp) (Q : VK) : Prop := xs.length ≤ sizeLine ∧ ∀ p, H p = none → Q (.ref p) (upd H p (.tup xs))
def aLst (xs : List V) (H : Hp) (Q : VK) : Prop := xs.length ≤ sizeLine ∧ ∀ p, H p = none → Q (.ref p) (upd H p (.lst xs))
def aFld (K : PySem.W.Frag) (x : V) (f : Str) (H : Hp) (Q : VK) : Prop := ∃ a C dx fs v, x = .ref a ∧ H a = some (.ins C dx fs) ∧ Cls K C ∧ NoAttr K C f ∧ fs.lookup f = some v ∧ Q v H
def aPut (K : PySem.W.Frag) (x y : V) (f : Str) (H : Hp) (Q : Hp → Prop) : Prop := ∃ a C dx fs, x = .ref a ∧ H a = some (.ins C dx fs) ∧ Cls K C ∧ NoAttr K C f ∧ fs.length < 1000 ∧ Q (upd H a (.ins C dx (putF f y fs)))
def aO (C : Addr) (m : Str) (x : V) (H : Hp) (P : Prop) : Prop := ∃ a dx fs, x = .ref a ∧ H a = some (.ins C dx fs) ∧ fs.lookup m = none ∧ P
def aN (C : Addr) (sp : Sp) (E : XK) (vs : List V) (H : Hp) (Q : VK) : Prop := ∀ x dx, H x = none → H dx = none → dx ≠ x → sp (.ref x :: vs) (upd (upd H dx (.own x)) x (.ins C dx [])) (fun v H2 => v = .non ∧ Q (.ref x) H2) E
theorem sz {n : Nat} (h : Nat.ble n 1000 = true) : n ≤ sizeLine := Nat.le_trans (Nat.le_of_ble_eq_true h) (by decide)
theorem szl {n : Nat} (h : n ≤ 100000) : n ≤ sizeLine := Nat.le_trans h (by decide)
theorem szlt {n : Nat} (h : n < 100000) : n < sizeLine := Nat.lt_of_lt_of_le h (by decide)
section
variable {K : PySem.W.Frag} {σ : L2.St} {H F : Hp} {L : List (Addr × HO)} {Q : VK} {QB : Bool → Hp → Prop} {QA : List V → Hp → Prop} {QO : Option Int → Hp → Prop} {nx bk ct : L2.St → Hp → Prop} {rt : VK} {t u : TS} {te ta tb tv to tcE : TE} {tc tA tB' : TT} {g : TG} {tr : TA} {r r' : R2} {v w x y : V} {i j l : Nat} {b : Bool} {P : Prop}
-- statements
theorem x_seq (h : t ⟨u ⟨nx, rt, bk, ct⟩, rt, bk, ct⟩ σ H) : tSeq t u ⟨nx, rt, bk, ct⟩ σ H := h
theorem x_next (h : nx σ H) : tNext ⟨nx, rt, bk, ct⟩ σ H := h
theorem x_asg (h : te σ H fun x H1 => g x σ H1 nx) : tAsg te g ⟨nx, rt, bk, ct⟩ σ H := h
theorem x_drop (h : te σ H fun _ H1 => nx σ H1) : tDrop te ⟨nx, rt, bk, ct⟩ σ H := h
theorem x_ret (h : te σ H rt) : tRet te ⟨nx, rt, bk, ct⟩ σ H := h
theorem x_retN (h : rt .non H) : tRetN ⟨nx, rt, bk, ct⟩ σ H := h
theorem x_brk (h : bk σ H) : tBreak ⟨nx, rt, bk, ct⟩ σ H := h
theorem x_cont (h : ct σ H) : tCont ⟨nx, rt, bk, ct⟩ σ H := h
theorem x_ifs (h : tc σ H fun b H1 => if b = true then t ⟨nx, rt, bk, ct⟩ σ H1 else u ⟨nx, rt, bk, ct⟩ σ H1) : tIfS tc t u ⟨nx, rt, bk, ct⟩ σ H := h
theorem x_par (h : tr σ H fun vs H1 => ∃ v w, vs = [v, w] ∧ nx ((σ.set i (some v)).set j (some w)) H1) : tPar i j tr ⟨nx, rt, bk, ct⟩ σ H := h
theorem x_par' (h : P) : ∃ v' w', [v, w] = [v', w'] ∧ P := ⟨v, w, rfl, h⟩
theorem x_sfld {f : Str} (h : tv σ H fun y H1 => ta σ H1 fun x H2 => aPut K x y f H2 (nx σ)) : sFld K ta tv f ⟨nx, rt, bk, ct⟩ σ H := h
theorem x_put {a C dx : Addr} {f : Str} {fs fs' : List (Str × V)} {QH : Hp → Prop} (h : H a = some (.ins C dx fs)) (c : Cls K C) (n : NoAttr K C f) (hl : fs.length < 1000) (hp : putF f y fs = fs') (q : QH (upd H a (.ins C dx fs'))) : aPut K (.ref a) y f H QH :=
  ⟨a, C, dx, fs, rfl, h, c, n, hl, by rw [hp]; exact q⟩
theorem x_rz {C : Addr} {E : XK} (h : E (.ref C) none H) : tRz C E ⟨nx, rt, bk, ct⟩ σ H := h
-- targets
theorem x_name (h : nx (σ.set i (some v)) H) : gName i v σ H nx := h
theorem x_gtup {a : Addr} {xs : List V} {n : Nat} {ts : TGs} (h : SqT K H a xs) (e : xs.length = n) (q : ts xs σ H nx) : gTup K n ts (.ref a) σ H nx := ⟨a, xs, rfl, h, e, q⟩
theorem x_gcons {ts : TGs} {vs : List V} (h : g v σ H fun σ' H' => ts vs σ' H' nx) : gCons g ts (v :: vs) σ H nx := ⟨v, vs, rfl, h⟩
theorem x_gnil (h : nx σ H) : gNil [] σ H nx := ⟨rfl, h⟩
-- expressions
theorem x_var (h : σ[i]? = some (some v)) (q : Q v H) : tVar i σ H Q := ⟨v, h, q⟩
theorem x_c (h : Q v H) : tC v σ H Q := h
theorem x_op (h : ta σ H fun x H1 => tb σ H1 fun y H2 => r x y H2 Q) : tOp r ta tb σ H Q := h
theorem x_un {r : V → Hp → VK → Prop} (h : ta σ H fun x H1 => r x H1 Q) : tUn r ta σ H Q := h
theorem x_neg {n : Int} (h : Q (.int (-n)) H) : rU (fun i => .int (-i)) (.int n) H Q := ⟨_, rfl, h⟩
theorem x_nil (h : QA [] H) : tNil σ H QA := h
theorem x_cons (h : ta σ H fun x H1 => tr σ H1 fun xs H2 => QA (x :: xs) H2) : tCons ta tr σ H QA := h
theorem x_tup (h : tr σ H fun xs H1 => aTup xs H1 Q) : tTup tr σ H Q := h
theorem x_lst (h : tr σ H fun xs H1 => aLst xs H1 Q) : tLst tr σ H Q := h
theorem x_cb {r : List V → Hp → VK → Prop} (h : tr σ H fun vs H1 => r vs H1 Q) : tCB r tr σ H Q := h
theorem x_bm {T : String} {r : V → List V → Hp → VK → Prop} (h : to σ H fun x H1 => tyV K T x H1 ∧ tr σ H1 fun xs H2 => r x xs H2 Q) : tBM K T r to tr σ H Q := h
theorem x_bm0 {T : String} {r : V → List V → Hp → VK → Prop} (h : to σ H fun x H1 => tyV K T x H1 ∧ r x [] H1 Q) : tBM0 K T r to σ H Q := h
theorem x_m1 {r : V → List V → Hp → VK → Prop} (h : to σ H fun x H1 => (∃ a, x = .str a) ∧ te σ H1 fun y H2 => r x [y] H2 Q) : tM1 r to te σ H Q := h
theorem x_m0 {r : V → List V → Hp → VK → Prop} (h : to σ H fun x H1 => (∃ a, x = .str a) ∧ r x [] H1 Q) : tM0 r to σ H Q := h
theorem x_isstr {z : Str} (h : P) : (∃ a, V.str z = .str a) ∧ P := ⟨⟨_, rfl⟩, h⟩
theorem x_tystr {z : Str} (h : P) : tyV K "str" (.str z) H ∧ P := ⟨rfl, h⟩
theorem x_tylst {a : Addr} {xs : List V} (hs : SqL K H a xs) (h : P) : tyV K "list" (.ref a) H ∧ P := ⟨.inl ⟨rfl, _, hs⟩, h⟩
theorem x_sl {r : V → Option Int → Option Int → Hp → VK → Prop} {tl th : TO} (h : te σ H fun x H1 => tl σ H1 fun l H2 => th σ H2 fun u H3 => r x l u H3 Q) : tSl r te tl th σ H Q := h
theorem x_part (h : te σ H fun x H1 => ∃ i, x = .int i ∧ QO (some i) H1) : tPart te σ H QO := h
theorem x_part' {n : Int} {Pi : Int → Prop} (h : Pi n) : ∃ i, V.int n = .int i ∧ Pi i := ⟨_, rfl, h⟩
theorem x_nopart (h : QO none H) : tNoPart σ H QO := h
theorem x_fld {f : Str} (h : ta σ H fun x H1 => aFld K x f H1 Q) : tFld K ta f σ H Q := h
theorem x_get {a C dx : Addr} {f : Str} {fs : List (Str × V)} (h : H a = some (.ins C dx fs)) (c : Cls K C) (n : NoAttr K C f) (hl : fs.lookup f = some v) (q : Q v H) : aFld K (.ref a) f H Q := ⟨a, C, dx, fs, v, rfl, h, c, n, hl, q⟩
theorem x_f {sp : Sp} {E : XK} (h : tr σ H fun vs H1 => sp vs H1 Q E) : tF sp E tr σ H Q := h
theorem x_o {C : Addr} {m : Str} {sp : Sp} {E : XK} (h : ta σ H fun x H1 => aO C m x H1 (tr σ H1 fun vs H2 => sp (x :: vs) H2 Q E)) : tO C m sp E ta tr σ H Q := h
theorem x_ao {a C dx : Addr} {m : Str} {fs : List (Str × V)} (h : H a = some (.ins C dx fs)) (hl : fs.lookup m = none) (q : P) : aO C m (.ref a) H P := ⟨a, dx, fs, rfl, h, hl, q⟩
theorem x_n {C : Addr} {sp : Sp} {E : XK} (h : tr σ H fun vs H1 => aN C sp E vs H1 Q) : tN C sp E tr σ H Q := h
theorem x_an {C : Addr} {sp : Sp} {E : XK} {vs : List V} (W : Hold F L H) (h : ∀ (x dx : Addr) (H1 : Hp), Hold F ((x, .ins C dx []) :: L) H1 → sp (.ref x :: vs) H1 (fun v H2 => v = .non ∧ Q (.ref x) H2) E) : aN C sp E vs H Q := fun x dx n1 n2 ne => h x dx _ (W.inst n1 n2 ne)
theorem x_if (h : tc σ H fun c H1 => if c = true then ta σ H1 Q else tb σ H1 Q) : tIf tc ta tb σ H Q := h
theorem x_isty {T : String} (h : ta σ H fun x H1 => rIsi K [x, .ty T] H1 Q) : tIsTy K ta T σ H Q := h
theorem x_chain (h : ta σ H fun x H1 => tb σ H1 fun y H2 => r x y H2 fun z H3 => ∃ k, z = .bl k ∧ if k = true then tcE σ H3 fun w' H4 => r' y w' H4 Q else Q (.bl false) H3) : tChain r r' ta tb tcE σ H Q := h
theorem x_andV (h : ta σ H fun x H1 => ∃ c, x = .bl c ∧ if c = true then tb σ H1 Q else Q (.bl false) H1) : tAndV ta tb σ H Q := h
theorem x_orV (h : ta σ H fun x H1 => ∃ c, x = .bl c ∧ if c = true then Q (.bl true) H1 else tb σ H1 Q) : tOrV ta tb σ H Q := h
theorem x_notV (h : ta σ H fun x H1 => ∃ c, x = .bl c ∧ Q (.bl (!c)) H1) : tNotV ta σ H Q := h
-- tests
theorem x_test (h : te σ H fun x H' => ∃ k, x = .bl k ∧ QB k H') : tTest te σ H QB := h
theorem x_B (h : te σ H fun x H1 => ∃ c, x = .bl c ∧ QB c H1) : tB te σ H QB := h
theorem x_bl {Qb : Bool → Prop} (h : Qb b) : ∃ k, V.bl b = .bl k ∧ Qb k := ⟨b, rfl, h⟩
theorem x_and (h : tA σ H fun c H1 => if c = true then tB' σ H1 QB else QB false H1) : tAnd tA tB' σ H QB := h
theorem x_or (h : tA σ H fun c H1 => if c = true then QB true H1 else tB' σ H1 QB) : tOr tA tB' σ H QB := h
theorem x_not (h : tA σ H fun c H1 => QB (!c) H1) : tNot tA σ H QB := h
theorem x_tru (h : ta σ H fun x H' => ∃ k, TruV K x H' k ∧ QB k H') : tTru K ta σ H QB := h
theorem x_yes (h : QB true H) : tYes σ H QB := h
-- new objects
theorem n_tupF {xs : List V} (W : Hold F L H) (hl : xs.length ≤ sizeLine) (k : ∀ (p : Addr) (F' H' : Hp), Same F F' → F' p = some (.tup xs) → Hold F' L H' → Q (.ref p) H') : aTup xs H Q :=
  ⟨hl, newF W fun p F' H' s h W' _ => k p F' H' s h W'⟩
theorem n_lstF {xs : List V} (W : Hold F L H) (hl : xs.length ≤ sizeLine) (k : ∀ (p : Addr) (F' H' : Hp), Same F F' → F' p = some (.lst xs) → Hold F' L H' → Q (.ref p) H') : aLst xs H Q :=
  ⟨hl, newF W fun p F' H' s h W' _ => k p F' H' s h W'⟩
theorem n_lstL {xs : List V} (W : Hold F L H) (hl : xs.length ≤ sizeLine) (k : ∀ (p : Addr) (H' : Hp), Hold F ((p, .lst xs) :: L) H' → Q (.ref p) H') : aLst xs H Q := ⟨hl, newL W k⟩
-- ways
theorem w2 {A B : Prop} (h1 : b = true → A) (h2 : b = false → B) : if b = true then A else B := by
  cases b with
  | true => rw [if_pos rfl]; exact h1 rfl
  | false => rw [if_neg Bool.false_ne_true]; exact h2 rfl
theorem wT {A B : Prop} (hb : b = true) (h : A) : if b = true then A else B := by rw [if_pos hb]; exact h
theorem wF {A B : Prop} (hb : b = false) (h : B) : if b = true then A else B := by rw [hb, if_neg Bool.false_ne_true]; exact h
theorem wD {A B : Prop} {c : Prop} [Decidable c] (h1 : c → A) (h2 : ¬ c → B) : if decide c = true then A else B := by
  by_cases h : c
  · rw [if_pos (decide_eq_true h)]; exact h1 h
  · rw [if_neg (by simpa using h)]; exact h2 h
theorem wN {A B : Prop} {c : Prop} [Decidable c] (h1 : ¬ c → A) (h2 : c → B) : if (!decide c) = true then A else B := by
  by_cases h : c
  · rw [decide_eq_true h, if_neg (by decide)]; exact h2 h
  · rw [decide_eq_false h, if_pos (by decide)]; exact h1 h
end
end Ss
/-! ## Part 6: texts by their codes; a class's fields -/
namespace Ss
open PySem PySem.Spec PyProof.Rows L2
/-- the text of these codes -/
abbrev T (l : List Nat) : Str := ⟨l.toArray⟩
theorem T_inj {l m : List Nat} : T l = T m ↔ l = m := ⟨fun h => by injection h with h; simpa using congrArg Array.toList h, fun h => by rw [h]⟩
theorem T_eq (l m : List Nat) : decide (V.str (T l) = V.str (T m)) = decide (l = m) := by
  by_cases h : l = m
  · subst h; simp
  · have : ¬ V.str (T l) = V.str (T m) := fun e => h (T_inj.mp (V.str.inj e))
    rw [decide_eq_false h, decide_eq_false this]
theorem T_len (l : List Nat) : (T l).length = l.length := by simp [Str.length]
theorem T_list (l : List Nat) : (T l).cps.toList = l := by simp
theorem T_app (l m : List Nat) : T l ++ T m = T (l ++ m) := by
  show Str.mk _ = Str.mk _
  congr 1
  simp
theorem Str_T (s : Str) : s = T s.cps.toList := by cases s; simp
end Ss
/-! ## Part 7: loops and comprehensions -/
namespace Ss
open PySem PySem.Spec PyProof.Rows L2
/-- what an iterator walks, wherever F stands: n items, and it changes nothing -/
structure ItOk (J : It) (F : Hp) (n : Nat) (item : Nat → V) : Prop where
  go : ∀ i H, Gr F H → i < n → J.go i H
  stop : ∀ H, Gr F H → J.stop n H
  yld : ∀ i H x H', Gr F H → i < n → J.yld i H x H' → H' = H ∧ x = item i
section
variable {K : PySem.W.Frag} {F : Hp} {a : Addr} {xs : List V} {n : Nat} {lo : Int} {item : Nat → V} {J : It}
theorem ItOk.mono {F' : Hp} (o : ItOk J F n item) (g : Gr F F') : ItOk J F' n item := ⟨fun i H h => o.go i H (g.trans h), fun H h => o.stop H (g.trans h), fun i H x H' h => o.yld i H x H' (g.trans h)⟩
theorem ItOk.list (h : SqL K F a xs) : ItOk (Itl K a) F xs.length (fun i => xs.getD i .non) where
  go := fun i H g hi => ⟨xs, xs[i], g.sqL h, by simp [hi]⟩
  stop := fun H g => ⟨xs, g.sqL h, Nat.le_refl _⟩
  yld := fun i H x H' g hi y => by
    obtain ⟨e, y⟩ := y
    refine ⟨e, ?_⟩
    have z := y xs (g.sqL h)
    rw [List.getD_eq_getElem?_getD, z]; rfl
theorem ItOk.tup (h : SqT K F a xs) : ItOk (Itt K a) F xs.length (fun i => xs.getD i .non) where
  go := fun i H g hi => ⟨xs, xs[i], g.sqT h, by simp [hi]⟩
  stop := fun H g => ⟨xs, g.sqT h, Nat.le_refl _⟩
  yld := fun i H x H' g hi y => by
    obtain ⟨e, y⟩ := y
    refine ⟨e, ?_⟩
    have z := y xs (g.sqT h)
    rw [List.getD_eq_getElem?_getD, z]; rfl
theorem ItOk.rng : ItOk (Itr lo n) F n (fun i => .int (lo + i)) := ⟨fun _ _ _ h => h, fun _ _ => Nat.le_refl _, fun _ _ _ _ _ _ y => y⟩
theorem ItOk.str (l : List Nat) : ItOk (Its (T l)) F l.length (fun i => .str (T [l.getD i 0])) where
  go := fun i H _ h => by show i < l.toArray.size; rw [List.size_toArray]; exact h
  stop := fun H _ => by show l.toArray.size ≤ l.length; rw [List.size_toArray]; exact Nat.le_refl _
  yld := fun i H x H' _ hi y => by
    obtain ⟨e, c, hc, rfl⟩ := y
    refine ⟨e, ?_⟩
    have z : l[i]? = some c := by simpa using hc
    rw [List.getD_eq_getElem?_getD, z]; rfl
end
/-- the loop behind what it walks -/
def aFor (J : It) (g : TG) (tb : TS) (D : Ends) (σ : L2.St) (H1 : Hp) : Prop := ∃ W : Nat → Nat → L2.St → Hp → Prop, (∃ m, W 0 m σ H1) ∧ ∀ i m σ H, W i m σ H →
  (J.stop i H ∧ D.nx σ H) ∨ (J.go i H ∧ ∃ N : L2.St → Hp → Prop, (∀ σ' H', N σ' H' → ∃ m', m' < m ∧ W (i + 1) m' σ' H') ∧ ∀ x H', J.yld i H x H' → g x σ H' fun σ2 H2 => tb { D with nx := N, ct := N, bk := D.nx } σ2 H2)
def aLc (J : It) (g : TG) (tt : TT) (te : TE) (vs : List Nat) (σ : L2.St) (H1 : Hp) (Q : VK) : Prop := ∀ D, H1 D = none → ∃ W : Nat → Nat → Hp → Prop, (∃ m, W 0 m (upd H1 D (.lst []))) ∧ ∀ i m H, W i m H →
  (J.stop i H ∧ Q (.ref D) H) ∨ (J.go i H ∧ ∃ Nx : Hp → Prop, (∀ H', Nx H' → ∃ m', m' < m ∧ W (i + 1) m' H') ∧ ∀ x H', J.yld i H x H' → g x (wipe σ vs) H' fun σ2 H2 => wipe σ2 vs = wipe σ vs ∧ tt σ2 H2 fun b H3 =>
    if b = true then te σ2 H3 fun y H4 => ∃ acc, H4 D = some (.lst acc) ∧ acc.length < sizeLine ∧ Nx (upd H4 D (.lst (acc ++ [y]))) else Nx H3)
section
variable {K : PySem.W.Frag} {σ : L2.St} {H F : Hp} {L : List (Addr × HO)} {Q : VK} {QI : It → Hp → Prop} {nx bk ct : L2.St → Hp → Prop} {rt : VK} {tb t : TS} {te tl : TE} {tt tc : TT} {g : TG} {tr : TA} {wi : TI} {J : It} {n : Nat} {item : Nat → V} {vs : List Nat}
theorem x_for (h : wi σ H fun J H1 => aFor J g tb ⟨nx, rt, bk, ct⟩ σ H1) : tFor wi g tb ⟨nx, rt, bk, ct⟩ σ H := h
theorem x_lc (h : wi σ H fun J H1 => aLc J g tt te vs σ H1 Q) : tLc wi g tt te vs σ H Q := h
theorem x_ilist (h : tl σ H fun x H1 => ∃ a, x = .ref a ∧ (∃ xs, SqL K H1 a xs) ∧ QI (Itl K a) H1) : iList K tl σ H QI := h
theorem x_ilist' {a : Addr} {xs : List V} {Pa : Addr → Prop} (hs : SqL K H a xs) (h : Pa a) : ∃ a', V.ref a = .ref a' ∧ (∃ xs, SqL K H a' xs) ∧ Pa a' := ⟨a, rfl, ⟨xs, hs⟩, h⟩
theorem x_itup (h : tl σ H fun x H1 => ∃ a, x = .ref a ∧ (∃ xs, SqT K H1 a xs) ∧ QI (Itt K a) H1) : iTup K tl σ H QI := h
theorem x_itup' {a : Addr} {xs : List V} {Pa : Addr → Prop} (hs : SqT K H a xs) (h : Pa a) : ∃ a', V.ref a = .ref a' ∧ (∃ xs, SqT K H a' xs) ∧ Pa a' := ⟨a, rfl, ⟨xs, hs⟩, h⟩
theorem x_istr (h : te σ H fun v H1 => ∃ x, v = .str x ∧ QI (Its x) H1) : iStr te σ H QI := h
theorem x_istr' {z : Str} {Pz : Str → Prop} (h : Pz z) : ∃ x, V.str z = .str x ∧ Pz x := ⟨z, rfl, h⟩
theorem x_irng1 (h : tr σ H fun vs H1 => ∃ j : Int, vs = [.int j] ∧ -(2 ^ 62) ≤ j ∧ j < 2 ^ 62 ∧ QI (Itr 0 j.toNat) H1) : iRng1 tr σ H QI := h
theorem x_irng1' {j : Int} {Pj : Int → Prop} (h1 : -(2 ^ 62) ≤ j) (h2 : j < 2 ^ 62) (h : Pj j) : ∃ j' : Int, [V.int j] = [.int j'] ∧ -(2 ^ 62) ≤ j' ∧ j' < 2 ^ 62 ∧ Pj j' := ⟨j, rfl, h1, h2, h⟩
theorem x_irng2 (h : tr σ H fun vs H1 => ∃ i j : Int, vs = [.int i, .int j] ∧ (-(2 ^ 62) ≤ i ∧ i < 2 ^ 62 ∧ -(2 ^ 62) ≤ j ∧ j < 2 ^ 62) ∧ QI (Itr i (j - i).toNat) H1) : iRng2 tr σ H QI := h
theorem x_irng2' {i j : Int} {Pj : Int → Int → Prop} (hb : -(2 ^ 62) ≤ i ∧ i < 2 ^ 62 ∧ -(2 ^ 62) ≤ j ∧ j < 2 ^ 62) (h : Pj i j) : ∃ i' j' : Int, [V.int i, V.int j] = [.int i', .int j'] ∧ (-(2 ^ 62) ≤ i' ∧ i' < 2 ^ 62 ∧ -(2 ^ 62) ≤ j' ∧ j' < 2 ^ 62) ∧ Pj i' j' := ⟨i, j, rfl, hb, h⟩
/-- THE LOOP: Pv between two turns -/
theorem x_forOk (ok : ItOk J F n item) (Pv : Nat → L2.St → Hp → Prop) (hg : ∀ i σ H, i ≤ n → Pv i σ H → Gr F H) (h0 : Pv 0 σ H)
    (hs : ∀ i σ H, i < n → Pv i σ H → g (item i) σ H fun σ2 H2 => tb ⟨Pv (i + 1), rt, nx, Pv (i + 1)⟩ σ2 H2) (hd : ∀ σ H, Pv n σ H → nx σ H) : aFor J g tb ⟨nx, rt, bk, ct⟩ σ H := by
  refine ⟨fun i m σ H => m = n - i ∧ i ≤ n ∧ Pv i σ H, ⟨n, by simp, Nat.zero_le _, h0⟩, ?_⟩
  rintro i m σ H ⟨rfl, hi, p⟩
  have q := hg i σ H hi p
  by_cases hlt : i < n
  · refine .inr ⟨ok.go i H q hlt, Pv (i + 1), fun σ' H' p' => ⟨n - (i + 1), by omega, rfl, hlt, p'⟩, fun x H' y => ?_⟩
    obtain ⟨rfl, rfl⟩ := ok.yld i H x H' q hlt y
    exact hs i σ _ hlt p
  · have e : i = n := by omega
    subst e
    exact .inl ⟨ok.stop H q, hd σ H p⟩
/-- A COMPREHENSION without a test: its i-th item has val i -/
theorem x_lcOk (ok : ItOk J F n item) (W : Hold F L H) (hn : n ≤ 100000) (val : Nat → V → Hp → Prop) (mono : ∀ i v F F', Gr F F' → val i v F → val i v F')
    (step : ∀ (d : Addr × HO) i F' H' (QQ : VK), i < n → Same F F' → Hold F' (L ++ [d]) H' → (∀ y F4 H4, Same F' F4 → Hold F4 (L ++ [d]) H4 → val i y F4 → QQ y H4) → g (item i) (wipe σ vs) H' fun σ2 H2 => wipe σ2 vs = wipe σ vs ∧ te σ2 H2 QQ)
    (gm : ∀ x σ H (Q Q' : L2.St → Hp → Prop), (∀ σ' H', Q σ' H' → Q' σ' H') → g x σ H Q → g x σ H Q')
    (done : ∀ (D : Addr) (ys : List V) (F' H' : Hp), Same F F' → ys.length = n → (∀ i, i < n → val i (ys.getD i .non) F') → Hold F' ((D, .lst ys) :: L) H' → Q (.ref D) H') : aLc J g tYes te vs σ H Q := by
  intro D hD
  refine ⟨fun i m H' => m = n - i ∧ i ≤ n ∧ ∃ ys F', Same F F' ∧ ys.length = i ∧ (∀ j, j < i → val j (ys.getD j .non) F') ∧ Hold F' ((D, .lst ys) :: L) H', ⟨n, by simp, Nat.zero_le _, [], F, Same.refl F, rfl, fun j h => absurd h (Nat.not_lt_zero _), W.make hD⟩, ?_⟩
  rintro i m H1 ⟨rfl, hi, ys, F1, s1, hl, hv, W1⟩
  have q : Gr F H1 := (Gr.of s1).trans W1.gr
  by_cases hlt : i < n
  · refine .inr ⟨ok.go i H1 q hlt, fun H' => ∃ ys F', Same F F' ∧ ys.length = i + 1 ∧ (∀ j, j < i + 1 → val j (ys.getD j .non) F') ∧ Hold F' ((D, .lst ys) :: L) H', fun H' p' => ⟨n - (i + 1), by omega, rfl, hlt, p'⟩, fun x H' y => ?_⟩
    obtain ⟨rfl, rfl⟩ := ok.yld i H1 x H' q hlt y
    have W2 : Hold F1 (L ++ [(D, .lst ys)]) H' := W1.perm (List.perm_append_singleton _ _).symm
    refine gm _ _ _ _ _ (fun σ2 H2 z => ⟨z.1, ?_⟩) (step (D, .lst ys) i F1 H' (fun y H4 => ∃ acc, H4 D = some (.lst acc) ∧ acc.length < sizeLine ∧ (∃ ys F', Same F F' ∧ ys.length = i + 1 ∧ (∀ j, j < i + 1 → val j (ys.getD j .non) F') ∧ Hold F' ((D, .lst ys) :: L) (upd H4 D (.lst (acc ++ [y]))))) hlt s1 W2 ?_)
    · exact x_yes (wT rfl z.2)
    · intro v F4 H4 s4 W4 hv4
      have W5 : Hold F4 ((D, .lst ys) :: L) H4 := W4.perm (List.perm_append_singleton _ _)
      refine ⟨ys, W5.get0, szlt (by omega), ys ++ [v], F4, fun a o e => s4 a o (s1 a o e), by rw [List.length_append, hl]; rfl, fun j hj => ?_, W5.put0⟩
      by_cases hji : j < i
      · have e : (ys ++ [v]).getD j .non = ys.getD j .non := by rw [List.getD_eq_getElem?_getD, List.getElem?_append_left (by omega), List.getD_eq_getElem?_getD]
        rw [e]
        exact mono j _ F1 F4 (Gr.of s4) (hv j hji)
      · have e : j = ys.length := by omega
        have e2 : (ys ++ [v]).getD j .non = v := by rw [e, List.getD_eq_getElem?_getD]; simp
        rw [e2, show j = i by omega]
        exact hv4
  · have e : i = n := by omega
    subst e
    exact .inl ⟨ok.stop H1 q, done D ys F1 H1 s1 hl hv W1⟩
theorem x_put0 {a C dx : Addr} {f : Str} {y : V} {fs fs' : List (Str × V)} {QH : Hp → Prop} (W : Hold F ((a, .ins C dx fs) :: L) H) (c : Cls K C) (m : NoAttr K C f) (hl : fs.length < 1000) (hp : putF f y fs = fs') (q : ∀ H', Hold F ((a, .ins C dx fs') :: L) H' → QH H') : aPut K (.ref a) y f H QH :=
  x_put W.get0 c m hl hp (q _ W.put0)
theorem x_putI {a C dx : Addr} {f : Str} {y : V} {fs fs' : List (Str × V)} {QH : Hp → Prop} (i : Nat) (W : Hold F L H) (hi : L[i]? = some (a, .ins C dx fs)) (c : Cls K C) (m : NoAttr K C f) (hl : fs.length < 1000) (hp : putF f y fs = fs') (q : ∀ H', Hold F (L.set i (a, .ins C dx fs')) H' → QH H') : aPut K (.ref a) y f H QH :=
  x_put (W.get i hi) c m hl hp (q _ (W.put i hi))
theorem wipe1 {σ : L2.St} {k : Nat} {x : Option V} : wipe (List.set (wipe σ [k]) k x) [k] = wipe σ [k] := by
  show ((((σ.set k none).set k x)).set k none) = σ.set k none
  rw [List.set_set, List.set_set]
theorem wipe2 {σ : L2.St} {j k : Nat} {x y : Option V} (h : j ≠ k) : wipe (List.set (List.set (wipe σ [j, k]) j x) k y) [j, k] = wipe σ [j, k] := by
  show (((((σ.set k none).set j none).set j x).set k y).set k none).set j none = (σ.set k none).set j none
  rw [List.set_set, List.set_set, List.set_comm _ _ h.symm, List.set_set, List.set_comm _ _ h, List.set_set]
theorem x_cut {u : TS} (Mid : L2.St → Hp → Prop) (h1 : t ⟨Mid, rt, bk, ct⟩ σ H) (h2 : ∀ σ' H', Mid σ' H' → u ⟨nx, rt, bk, ct⟩ σ' H') : C8.tCut t u ⟨nx, rt, bk, ct⟩ σ H := ⟨Mid, h1, h2⟩
theorem gm_name {i : Nat} : ∀ x σ H (Q Q' : L2.St → Hp → Prop), (∀ σ' H', Q σ' H' → Q' σ' H') → gName i x σ H Q → gName i x σ H Q' := fun _ _ _ _ _ h q => h _ _ q
/-- a while: W falls -/
theorem x_while (W : Nat → L2.St → Hp → Prop) (m0 : Nat) (h0 : W m0 σ H)
    (hs : ∀ m σ H, W m σ H → tc σ H fun b H1 => if b = true then ∃ N : L2.St → Hp → Prop, (∀ σ' H', N σ' H' → ∃ m', m' < m ∧ W m' σ' H') ∧ tb ⟨N, rt, nx, N⟩ σ H1 else nx σ H1) : tWhile tc tb ⟨nx, rt, bk, ct⟩ σ H := ⟨W, ⟨m0, h0⟩, hs⟩
theorem x_wN {W : Nat → L2.St → Hp → Prop} {m : Nat} (h : tb ⟨fun σ' H' => ∃ m', m' < m ∧ W m' σ' H', rt, nx, fun σ' H' => ∃ m', m' < m ∧ W m' σ' H'⟩ σ H) : ∃ N : L2.St → Hp → Prop, (∀ σ' H', N σ' H' → ∃ m', m' < m ∧ W m' σ' H') ∧ tb ⟨N, rt, nx, N⟩ σ H := ⟨_, fun _ _ z => z, h⟩
end
theorem str1 {n m : Nat} : V.str (T [n]) = V.str (T [m]) ↔ n = m := ⟨fun h => by have := T_inj.mp (V.str.inj h); simpa using this, fun h => by rw [h]⟩
theorem strT {l m : List Nat} : V.str (T l) = V.str (T m) ↔ l = m := ⟨fun h => T_inj.mp (V.str.inj h), fun h => by rw [h]⟩
theorem lt1 {n m : Nat} : decide (([n] : List Nat) < [m]) = decide (n < m) := by
  rw [Bool.eq_iff_iff, decide_eq_true_eq, decide_eq_true_eq, List.cons_lt_cons_iff]
  simp
section
variable {K : PySem.W.Frag} {H F : Hp} {L : List (Addr × HO)} {Q : VK} {p q : Addr} {xs ys : List V} {i j : Int} {lo hi : Option Int}
theorem n_tupleF (W : Hold F L H) (hp : SqL K H p xs) (k : ∀ (r : Addr) (F' H' : Hp), Same F F' → F' r = some (.tup xs) → Hold F' L H' → Q (.ref r) H') : uTuple K [.ref p] H Q := l_tupleL hp (newF W fun r F' H' s h W' _ => k r F' H' s h W')
theorem n_listF (W : Hold F L H) (hp : SqL K H p xs ∨ SqT K H p xs) (k : ∀ (r : Addr) (F' H' : Hp), Same F F' → F' r = some (.lst xs) → Hold F' L H' → Q (.ref r) H') : uList K [.ref p] H Q := l_list hp (newF W fun r F' H' s h W' _ => k r F' H' s h W')
theorem n_listL (W : Hold F L H) (hp : SqL K H p xs ∨ SqT K H p xs) (k : ∀ (r : Addr) (H' : Hp), Hold F ((r, .lst xs) :: L) H' → Q (.ref r) H') : uList K [.ref p] H Q := l_list hp (newL W k)
theorem n_slF (W : Hold F L H) (hp : SqL K H p xs) (k : ∀ (r : Addr) (F' H' : Hp), Same F F' → F' r = some (.lst (cutV xs lo hi)) → Hold F' L H' → Q (.ref r) H') : uSl K (.ref p) lo hi H Q := l_slL hp (newF W fun r F' H' s h W' _ => k r F' H' s h W')
theorem n_slL (W : Hold F L H) (hp : SqL K H p xs) (k : ∀ (r : Addr) (H' : Hp), Hold F ((r, .lst (cutV xs lo hi)) :: L) H' → Q (.ref r) H') : uSl K (.ref p) lo hi H Q := l_slL hp (newL W k)
theorem n_addF (W : Hold F L H) (hp : H p = some (.lst xs)) (hq : H q = some (.lst ys)) (hl : xs.length + ys.length ≤ sizeLine) (k : ∀ (r : Addr) (F' H' : Hp), Same F F' → F' r = some (.lst (xs ++ ys)) → Hold F' L H' → Q (.ref r) H') : uAdd K (.ref p) (.ref q) H Q := l_addL hp hq hl (newF W fun r F' H' s h W' _ => k r F' H' s h W')
theorem n_addL (W : Hold F L H) (hp : H p = some (.lst xs)) (hq : H q = some (.lst ys)) (hl : xs.length + ys.length ≤ sizeLine) (k : ∀ (r : Addr) (H' : Hp), Hold F ((r, .lst (xs ++ ys)) :: L) H' → Q (.ref r) H') : uAdd K (.ref p) (.ref q) H Q := l_addL hp hq hl (newL W k)
theorem rep_one {v : V} (n : Nat) : (List.replicate n [v]).flatten = List.replicate n v := by
  induction n with
  | zero => rfl
  | succ n ih => rw [List.replicate_succ, List.flatten_cons, ih, List.replicate_succ]; rfl
theorem n_mul1L {v : V} (W : Hold F L H) (hp : H p = some (.lst [v])) (h2 : j < 100000) (k : ∀ (r : Addr) (H' : Hp), Hold F ((r, .lst (List.replicate j.toNat v)) :: L) H' → Q (.ref r) H') (h1 : -100000 < j) : uMul K (.ref p) (.int j) H Q :=
  l_mulL hp (by omega) (by omega) (by show 1 * j.toNat ≤ _; exact szl (by omega)) (newL W fun r H' W' => k r H' (by rw [rep_one] at W'; exact W'))
theorem n_mul1F {v : V} (W : Hold F L H) (hp : H p = some (.lst [v])) (h2 : j < 100000) (k : ∀ (r : Addr) (F' H' : Hp), Same F F' → F' r = some (.lst (List.replicate j.toNat v)) → Hold F' L H' → Q (.ref r) H') (h1 : -100000 < j) : uMul K (.ref p) (.int j) H Q :=
  l_mulL hp (by omega) (by omega) (by show 1 * j.toNat ≤ _; exact szl (by omega)) (newF W fun r F' H' s h W' _ => k r F' H' s (by rw [rep_one] at h; exact h) W')
end
theorem tyX_gr {K : PySem.W.Frag} {F F' : Hp} {x : V} {t : Value} (g : Gr F F') (h : TyX K F x t) : TyX K F' x t := by
  cases h with
  | base b =>
    refine .base ?_
    cases b with
    | non => exact .non
    | bl y => exact .bl y
    | int i => exact .int i
    | str y => exact .str y
    | flt y => exact .flt y
    | lst e => exact .lst (g _ _ e fun _ z => by cases z)
    | frz e => exact .frz (g _ _ e fun _ z => by cases z)
    | tup e => exact .tup (g _ _ e fun _ z => by cases z)
    | dK e => exact .dK (g _ _ e fun _ z => by cases z)
    | dT e => exact .dT (g _ _ e fun _ z => by cases z)
    | ins e a b c d f => exact .ins (g _ _ e fun _ z => by cases z) a b c d f
  | byt b => exact .byt b
  | set e => exact .set (g _ _ e fun _ z => by cases z)
  | kList e c => exact .kList e c
  | kTuple e c => exact .kTuple e c
  | kDict e c => exact .kDict e c
  | fTuple e => exact .fTuple (g _ _ e fun _ z => by cases z)
  | fDict e => exact .fDict (g _ _ e fun _ z => by cases z)
theorem dpAll_of {K : PySem.W.Frag} {F : Hp} : ∀ {ys : List V} {ds : List PyData}, ys.length = ds.length → (∀ i, i < ds.length → Dp K F (ys.getD i .non) (ds.getD i .none)) → DpAll K F ys ds
  | [], [], _, _ => .nil
  | [], _ :: _, e, _ => (nomatch e)
  | _ :: _, [], e, _ => (nomatch e)
  | y :: ys, d :: ds, e, h => .cons (h 0 (Nat.zero_lt_succ _)) (dpAll_of (Nat.succ.inj e) fun i hi => h (i + 1) (Nat.succ_lt_succ hi))
theorem dp_ints {K : PySem.W.Frag} {F : Hp} : ∀ (l : List Nat), DpAll K F (l.map fun (n : Nat) => V.int n) (l.map fun (n : Nat) => .int n)
  | [] => .nil
  | n :: l => .cons (.int _) (dp_ints l)
theorem dpAll_len {K : PySem.W.Frag} {F : Hp} : ∀ {ys : List V} {ds : List PyData}, DpAll K F ys ds → ys.length = ds.length
  | _, _, .nil => rfl
  | _, _, .cons _ h => congrArg Nat.succ (dpAll_len h)
theorem dpAll_get {K : PySem.W.Frag} {F : Hp} : ∀ {ys : List V} {ds : List PyData}, DpAll K F ys ds → ∀ i, i < ds.length → Dp K F (ys.getD i .non) (ds.getD i .none)
  | _, _, .nil, _, h => absurd h (Nat.not_lt_zero _)
  | _, _, .cons h _, 0, _ => h
  | _, _, .cons _ h, i + 1, hi => dpAll_get h i (Nat.lt_of_succ_lt_succ hi)
theorem dpAll_app {K : PySem.W.Frag} {F : Hp} : ∀ {ys zs : List V} {ds es : List PyData}, DpAll K F ys ds → DpAll K F zs es → DpAll K F (ys ++ zs) (ds ++ es)
  | _, _, _, _, .nil, h => h
  | _, _, _, _, .cons h1 h2, h => .cons h1 (dpAll_app h2 h)
end Ss
/-! ## Part 8: leaves over texts by codes -/
namespace Ss
open PySem PySem.Spec PyProof.Rows L2
theorem st_of {K : PySem.W.Frag} {H : Hp} {a : Addr} {xs : List V} (h : H a = some (.tup xs)) : SqT K H a xs := Or.inl (Or.inl h)
theorem sq_of {K : PySem.W.Frag} {H : Hp} {a : Addr} {xs : List V} (h : H a = some (.lst xs)) : SqL K H a xs := Or.inl (Or.inl h)
def cutL {α : Type} (l : List α) (lo hi : Option Int) : List α := (l.drop (HT.sIx l.length 0 lo)).take (HT.sIx l.length l.length hi - HT.sIx l.length 0 lo)
theorem sIx_nat (n d k : Nat) : HT.sIx n d (some (k : Int)) = min k n := by
  show (if ((k : Nat) : Int) < 0 then (((k : Nat) : Int) + n).toNat else min ((k : Nat) : Int).toNat n) = _
  rw [if_neg (by omega)]
  omega
theorem sIx_neg (n d k : Nat) (hk : 0 < k) : HT.sIx n d (some (-(k : Int))) = n - k := by
  show (if -((k : Nat) : Int) < 0 then (-((k : Nat) : Int) + n).toNat else min (-((k : Nat) : Int)).toNat n) = _
  rw [if_pos (by omega)]
  omega
theorem drop_min {α : Type} (l : List α) (k : Nat) : l.drop (min k l.length) = l.drop k := by
  by_cases h : k ≤ l.length
  · rw [Nat.min_eq_left h]
  · rw [Nat.min_eq_right (by omega), List.drop_length, List.drop_eq_nil_of_le (by omega)]
/-- l[k:] -/
theorem cutL_from {α : Type} (l : List α) (k : Nat) : cutL l (some (k : Int)) none = l.drop k := by
  unfold cutL
  rw [sIx_nat, drop_min]
  show (l.drop k).take (l.length - min k l.length) = _
  exact List.take_of_length_le (by rw [List.length_drop]; omega)
/-- l[:k] -/
theorem cutL_to {α : Type} (l : List α) (k : Nat) : cutL l none (some (k : Int)) = l.take k := by
  unfold cutL
  rw [sIx_nat]
  show (l.drop 0).take (min k l.length - 0) = _
  rw [List.drop_zero, Nat.sub_zero]
  by_cases h : k ≤ l.length
  · rw [Nat.min_eq_left h]
  · rw [Nat.min_eq_right (by omega), List.take_length, List.take_of_length_le (by omega)]
/-- l[j:k] -/
theorem cutL_mid {α : Type} (l : List α) (j k : Nat) : cutL l (some (j : Int)) (some (k : Int)) = (l.drop j).take (k - j) := by
  unfold cutL
  rw [sIx_nat, sIx_nat, drop_min]
  by_cases h : k ≤ l.length
  · by_cases h2 : j ≤ l.length
    · rw [Nat.min_eq_left h, Nat.min_eq_left h2]
    · rw [List.drop_eq_nil_of_le (by omega)]; simp
  · rw [Nat.min_eq_right (by omega : l.length ≤ k)]
    rw [List.take_of_length_le (by rw [List.length_drop]; omega), List.take_of_length_le (by rw [List.length_drop]; omega)]
/-- l[j:-1] -/
theorem cutL_last {α : Type} (l : List α) (j : Nat) : cutL l (some (j : Int)) (some (-1)) = (l.drop j).take (l.length - 1 - j) := by
  unfold cutL
  rw [sIx_nat, drop_min, show (-1 : Int) = -((1 : Nat) : Int) from rfl, sIx_neg _ _ _ (by decide)]
  by_cases h2 : j ≤ l.length
  · rw [Nat.min_eq_left h2]
  · rw [List.drop_eq_nil_of_le (by omega)]; simp
theorem cutS_T (l : List Nat) (lo hi : Option Int) : cutS (T l) lo hi = T (cutL l lo hi) := by
  unfold cutS cutL
  rw [T_len, T_list]
theorem cutV_L (l : List V) (lo hi : Option Int) : cutV l lo hi = cutL l lo hi := rfl
theorem atI_nat {α : Type} {xs : List α} {i : Nat} {v : α} (h : xs[i]? = some v) : atI xs (i : Int) = some v := by
  have hi : i < xs.length := (List.getElem?_eq_some_iff.mp h).1
  unfold atI ixN
  rw [if_pos (by omega), if_pos (by omega)]
  exact h
theorem atI_last {α : Type} {xs : List α} {v : α} : atI (xs ++ [v]) (-1) = some v := by
  unfold atI ixN
  rw [if_neg (by omega), if_pos (by simp; omega)]
  have e : ((-1 : Int) + ((xs ++ [v]).length : Nat)).toNat = xs.length := by simp; omega
  rw [e]
  simp
theorem one1 {n m : Nat} : ([n] : List Nat) = [m] ↔ n = m := by simp
section
variable {K : PySem.W.Frag} {H F : Hp} {L : List (Addr × HO)} {Q : VK} {l m : List Nat} {i : Int} {n : Nat} {lo hi : Option Int}
theorem X_len (hl : l.length ≤ 100000000) (hs : l.length ≤ sizeLine) (h : Q (.int l.length) H) : uLen K [.str (T l)] H Q := l_lenS (by rw [T_len]; exact hs) (by rw [T_len]; exact h)
theorem l_lenX (hl : l.length ≤ 1000000) (h : Q (.int l.length) H) : uLen K [.str (T l)] H Q := l_lenS (by rw [T_len]; exact Nat.le_trans hl (by decide)) (by rw [T_len]; exact h)
theorem l_addX (hl : l.length + m.length ≤ 1000000) (h : Q (.str (T (l ++ m))) H) : uAdd K (.str (T l)) (.str (T m)) H Q := l_addS (by rw [T_len, T_len]; exact Nat.le_trans hl (by decide)) (by rw [T_app]; exact h)
theorem l_ixX (hl : l.length ≤ 1000000) (ha : atI l i = some n) (h : Q (.str (T [n])) H) : uIx K (.str (T l)) (.int i) H Q := l_ixS (by rw [T_len]; exact Nat.le_trans hl (by decide)) (by rw [T_list]; exact ha) h
theorem l_slX (hl : l.length ≤ 1000000) (h : Q (.str (T (cutL l lo hi))) H) : uSl K (.str (T l)) lo hi H Q := l_slS (by rw [T_len]; exact Nat.le_trans hl (by decide)) (by rw [cutS_T]; exact h)
theorem l_eqX (h : Q (.bl (decide (l = m))) H) : uEq K (.str (T l)) (.str (T m)) H Q := l_eq rfl (by rw [T_eq]; exact h)
theorem l_neX (h : Q (.bl (!decide (l = m))) H) : uNe K (.str (T l)) (.str (T m)) H Q := l_ne rfl (by rw [T_eq]; exact h)
theorem l_eqII {i j : Int} (h : Q (.bl (decide (i = j))) H) : uEq K (.int i) (.int j) H Q := l_eq rfl (by
  have e : decide (V.int i = V.int j) = decide (i = j) := by rw [Bool.eq_iff_iff]; simp
  rw [e]; exact h)
theorem l_neII {i j : Int} (h : Q (.bl (!decide (i = j))) H) : uNe K (.int i) (.int j) H Q := l_ne rfl (by
  have e : decide (V.int i = V.int j) = decide (i = j) := by rw [Bool.eq_iff_iff]; simp
  rw [e]; exact h)
theorem l_inX (h : Q (.bl (decide (n ∈ l))) H) : uIn K (.str (T [n])) (.str (T l)) H Q := l_inS (by rw [T_list]; exact h)
theorem l_niX (h : Q (.bl (!decide (n ∈ l))) H) : uNotIn K (.str (T [n])) (.str (T l)) H Q := l_niS (by rw [T_list]; exact h)
theorem l_count {s : Nat} (h : Q (.int (cnt s l)) H) : u_count (.str (T l)) [.str (T [s])] H Q := ⟨_, _, rfl, rfl, by rw [count_cnt, T_list]; exact h⟩
theorem l_split {ps : List (List Nat)} {s : Nat} (W : Hold F L H) (hs : s < 256) (hl : (TL.joinL [s] ps).length ≤ 1000000) (hne : ps ≠ []) (hp : ∀ p ∈ ps, s ∉ p)
    (k : ∀ (r : Addr) (F' H' : Hp), Same F F' → F' r = some (.lst (ps.map fun p => .str (T p))) → Hold F' L H' → Q (.ref r) H') : u_split (.str (T (TL.joinL [s] ps))) [.str (T [s])] H Q := by
  refine ⟨_, _, rfl, rfl, rfl, ?_, ?_⟩
  · rw [T_len]; exact Nat.le_trans (Nat.add_le_add_right hl 2) (by decide)
  have e : Txt.split (T (TL.joinL [s] ps)) (T [s]) = ps.map T := by
    have z := TL.split_join (y := T [s]) (s := s) (S := []) rfl (by simp; exact hs) (parts := ps.map T) (by simpa using hne) (fun p hp' => by
      obtain ⟨q, hq, rfl⟩ := List.mem_map.mp hp'
      exact hp q hq)
    have e2 : Txt.join (T [s]) (ps.map T) = T (TL.joinL [s] ps) := by
      refine TL.ext_tl ?_
      rw [TL.join_eq, TL.tl_join]
      have e3 : (ps.map T).map TL.tl = ps := by rw [List.map_map]; simp [Function.comp_def]
      rw [e3]
    rw [← e2]; exact z
  rw [e]
  have e4 : (ps.map T).map V.str = ps.map fun p => .str (T p) := by rw [List.map_map]; rfl
  intro r hr
  rw [e4]
  exact newF W (fun r F' H' s h W' _ => k r F' H' s h W') r hr
end
/-! ### numbers that are Nat's -/
section
variable {K : PySem.W.Frag} {H F : Hp} {L : List (Addr × HO)} {Q : VK} {n m k : Nat}
theorem g_addNN (h : Q (.int ((n + m : Nat) : Int)) H) : uAdd K (.int (n : Int)) (.int (m : Int)) H Q := l_addI h
theorem g_addNL (h : Q (.int ((n + OfNat.ofNat k : Nat) : Int)) H) : uAdd K (.int (n : Int)) (.int (OfNat.ofNat k)) H Q := l_addI h
theorem g_addLN (h : Q (.int ((OfNat.ofNat k + n : Nat) : Int)) H) : uAdd K (.int (OfNat.ofNat k)) (.int (n : Int)) H Q := l_addI h
theorem g_mulNN (hb : n < 2 ^ 400) (hb2 : m < 2 ^ 400) (h : Q (.int ((n * m : Nat) : Int)) H) : uMul K (.int (n : Int)) (.int (m : Int)) H Q :=
  l_mulI (mulx_ok (a := 400) (b := 400) (by omega) (by omega) (by decide)) (by
    have e : ((n * m : Nat) : Int) = (n : Int) * (m : Int) := Int.natCast_mul n m
    rw [← e]; exact h)
theorem g_divNL (hk : 0 < k) (hk2 : k < 2 ^ 100) (h : Q (.int ((n / OfNat.ofNat k : Nat) : Int)) H) : uDiv (.int (n : Int)) (.int (OfNat.ofNat k)) H Q := by
  refine l_divI (wide_div (b := 100) ?_ ?_ (by decide) (by decide)) (by
    have e : ((n / OfNat.ofNat k : Nat) : Int) = (n : Int) / (OfNat.ofNat k : Int) := by exact Int.natCast_ediv n k
    rw [← e]; exact h)
  · show (0 : Int) < ((k : Nat) : Int); omega
  · show ((k : Nat) : Int).natAbs < _; omega
theorem g_modNL (hk : 0 < k) (h : Q (.int ((n % OfNat.ofNat k : Nat) : Int)) H) : uMod (.int (n : Int)) (.int (OfNat.ofNat k)) H Q := by
  refine l_modI ?_ (by
    have e : ((n % OfNat.ofNat k : Nat) : Int) = (n : Int) % (OfNat.ofNat k : Int) := by exact Int.natCast_emod n k
    rw [← e]; exact h)
  · show (0 : Int) < ((k : Nat) : Int); omega
theorem g_modNN (hk : 0 < k) (h : Q (.int ((n % k : Nat) : Int)) H) : uMod (.int (n : Int)) (.int (k : Int)) H Q := by
  refine l_modI (by omega) (by
    have e : ((n % k : Nat) : Int) = (n : Int) % (k : Int) := Int.natCast_emod n k
    rw [← e]; exact h)
theorem g_divNN (hk : 0 < k) (hk2 : k < 2 ^ 100) (h : Q (.int ((n / k : Nat) : Int)) H) : uDiv (.int (n : Int)) (.int (k : Int)) H Q := by
  refine l_divI (wide_div (b := 100) (by omega) (by omega) (by decide) (by decide)) (by
    have e : ((n / k : Nat) : Int) = (n : Int) / (k : Int) := Int.natCast_ediv n k
    rw [← e]; exact h)
theorem g_eqNL (h : Q (.bl (decide (n = OfNat.ofNat k))) H) : uEq K (.int (n : Int)) (.int (OfNat.ofNat k)) H Q := l_eqII (by
  have e : decide ((n : Int) = (OfNat.ofNat k : Int)) = decide (n = OfNat.ofNat k) := by
    rw [Bool.eq_iff_iff, decide_eq_true_eq, decide_eq_true_eq]
    exact Int.ofNat_inj
  rw [e]; exact h)
theorem g_ltNL (h : Q (.bl (decide (n < OfNat.ofNat k))) H) : uLt (.int (n : Int)) (.int (OfNat.ofNat k)) H Q := l_ltI (by
  have e : decide ((n : Int) < (OfNat.ofNat k : Int)) = decide (n < OfNat.ofNat k) := by
    rw [Bool.eq_iff_iff, decide_eq_true_eq, decide_eq_true_eq]
    exact Int.ofNat_lt
  rw [e]; exact h)
/-- an item of a written text -/
theorem g_ixX {l : List Nat} (hl : l.length ≤ 1000000) (hi : n < l.length) (h : Q (.str (T [l.getD n 0])) H) : uIx K (.str (T l)) (.int (n : Int)) H Q :=
  l_ixX hl (atI_nat (by rw [List.getD_eq_getElem?_getD, List.getElem?_eq_getElem hi]; rfl)) h
theorem g_ixL {p : Addr} {xs : List V} (hp : SqL K H p xs) (hi : n < xs.length) (h : Q (xs.getD n .non) H) : uIx K (.ref p) (.int (n : Int)) H Q :=
  l_ixL hp (atI_nat (by rw [List.getD_eq_getElem?_getD, List.getElem?_eq_getElem hi]; rfl)) h
end
/-! ### join, str -/
section
variable {K : PySem.W.Frag} {H F : Hp} {L : List (Addr × HO)} {Q : VK}
theorem l_strN {n : Nat} (hn : n < 2 ^ 1000) (h : Q (.str (T (TL.numL n))) H) : uStr [.int ((n : Nat) : Int)] H Q := by
  refine l_str ?_ ?_
  · rw [Int.natAbs_natCast]
    by_cases h0 : n = 0
    · rw [h0]; decide
    · exact Nat.lt_trans ((Nat.log2_lt h0).mpr hn) (by decide)
  · have e : (Str.ofString (toString ((n : Nat) : Int))) = T (TL.numL n) := TL.ext_tl (by rw [TL.tl_num, TL.tl_mk])
    rw [e]; exact h
theorem sum_le {b : Nat} : ∀ {l : List Nat}, (∀ x ∈ l, x ≤ b) → l.sum ≤ b * l.length
  | [], _ => by simp
  | x :: l, h => by
    have h1 := h x List.mem_cons_self
    have h2 := sum_le (l := l) fun y hy => h y (List.mem_cons_of_mem _ hy)
    rw [List.sum_cons, List.length_cons, Nat.mul_succ]
    omega
theorem l_join {p : Addr} {ls : List (List Nat)} {sep : List Nat} (b : Nat) (hs : SqL K H p (ls.map fun l => .str (T l)) ∨ SqT K H p (ls.map fun l => .str (T l))) (hb : ∀ l ∈ ls, l.length ≤ b) (hn : b * ls.length + ls.length * sep.length ≤ 16000000)
    (h : Q (.str (T (TL.joinL sep ls))) H) : u_join K (.str (T sep)) [.ref p] H Q := by
  have e4 : (ls.map T).map V.str = ls.map fun l => .str (T l) := by rw [List.map_map]; rfl
  refine ⟨T sep, p, ls.map T, rfl, rfl, by rw [e4]; exact hs, ?_, ?_⟩
  · have e : ((ls.map T).map (·.length)) = ls.map (·.length) := by
      rw [List.map_map]
      exact List.map_congr_left fun l _ => T_len l
    rw [e, T_len, List.length_map]
    have := sum_le (b := b) (l := ls.map (·.length)) fun x hx => by obtain ⟨l, hl, rfl⟩ := List.mem_map.mp hx; exact hb l hl
    rw [List.length_map] at this
    omega
  · have e2 : Txt.join (T sep) (ls.map T) = T (TL.joinL sep ls) := by
      refine TL.ext_tl ?_
      rw [TL.join_eq, TL.tl_join]
      have e3 : (ls.map T).map TL.tl = ls := by rw [List.map_map]; simp [Function.comp_def]
      rw [e3]
    rw [e2]; exact h
theorem joinL_nil : ∀ (ls : List (List Nat)), TL.joinL [] ls = ls.flatten
  | [] => rfl
  | [l] => by simp [TL.joinL]
  | l :: m :: ls => by
    show l ++ ([] ++ TL.joinL [] (m :: ls)) = _
    rw [joinL_nil (m :: ls)]
    simp
theorem joinL_len {sep : List Nat} {b : Nat} : ∀ {ls : List (List Nat)}, (∀ l ∈ ls, l.length ≤ b) → (TL.joinL sep ls).length ≤ (b + sep.length) * ls.length
  | [], _ => by simp [TL.joinL]
  | [l], h => by have := h l List.mem_cons_self; simp [TL.joinL]; omega
  | l :: m :: ls, h => by
    have h1 := h l List.mem_cons_self
    have h2 := joinL_len (sep := sep) (ls := m :: ls) fun x hx => h x (List.mem_cons_of_mem _ hx)
    show (l ++ (sep ++ TL.joinL sep (m :: ls))).length ≤ _
    rw [List.length_append, List.length_append, List.length_cons, Nat.mul_succ]
    omega
end
theorem numL_len4 {n : Nat} (h : n ≤ 9999) : (TL.numL n).length ≤ 4 := TL.numL_len (by decide) (by omega)
/-! ### written dicts -/
theorem pairs_const {σ : L2.St} {R : List (V × V) → Hp → Prop} : ∀ (kvs : List (Key × V)) {H : Hp}, R (kvs.map fun kv => (kV kv.1, kv.2)) H → tPairs (kvs.map fun kv => ((tC (kV kv.1), tC kv.2) : TE × TE)) σ H R
  | [], H, h => h
  | kv :: kvs, H, h => pairs_const (R := fun ps H' => R ((kV kv.1, kv.2) :: ps) H') kvs h
theorem n_dispC {σ : L2.St} {H F : Hp} {L : List (Addr × HO)} {Q : VK} {trs : List (TE × TE)} (kvs : List (Key × V)) (W : Hold F L H) (e : trs = kvs.map fun kv => ((tC (kV kv.1), tC kv.2) : TE × TE)) (hl : kvs.length ≤ 15)
    (k : ∀ (p : Addr) (H' : Hp), Hold F ((p, .dK (mergeK [] kvs)) :: L) H' → Q (.ref p) H') : tDisp trs σ H Q := by
  subst e
  intro p hp
  refine pairs_const kvs ⟨upd_same, kvs, rfl, hl, k p _ ?_⟩
  rw [upd_upd]
  exact W.make hp
theorem x_dget2 {σ : L2.St} {H : Hp} {Q : VK} {td ty tx : TE} (h : td σ H fun x H1 => ∃ a, x = .ref a ∧ IsD H1 a ∧ ty σ H1 fun y H2 => tx σ H2 fun z H3 => ∃ o, DGet H3 a y o ∧ Q (o.getD z) H3) : tDGet2 td ty tx σ H Q := h
theorem x_isd {H : Hp} {a : Addr} {kvs : List (Key × V)} {P : Addr → Prop} (h : H a = some (.dK kvs)) (q : P a) : ∃ a', V.ref a = .ref a' ∧ IsD H a' ∧ P a' := ⟨a, rfl, .inl ⟨kvs, .inl h⟩, q⟩
theorem x_dgetS {H : Hp} {a : Addr} {kvs : List (Key × V)} {z : Str} {P : Option V → Prop} (h : H a = some (.dK kvs)) (q : P (valV kvs (Sum.inr z))) : ∃ o, DGet H a (.str z) o ∧ P o := ⟨_, DGet.k (k := Sum.inr z) h, q⟩
/-! ### data that == takes -/
def Sh (k : Nat) (d : PyData) : Prop := d.canLay0 = true ∧ d.depth ≤ k
theorem Sh.shaped {k : Nat} {d : PyData} (h : Sh k d) (hk : k ≤ 64) : SeqAt.shaped d = true := by
  unfold SeqAt.shaped
  rw [h.1, decide_eq_true (Nat.le_trans h.2 hk)]; rfl
theorem Sh.eqv {k : Nat} {d : PyData} (h : Sh k d) : PyData.eqv d d = true := SeqAt.eqv_refl d h.1
theorem Sh.none {k : Nat} : Sh k .none := ⟨rfl, Nat.zero_le _⟩
theorem Sh.bl {k : Nat} {b : Bool} : Sh k (.bool b) := ⟨rfl, Nat.zero_le _⟩
theorem Sh.int {k : Nat} {i : Int} : Sh k (.int i) := ⟨rfl, Nat.zero_le _⟩
theorem Sh.str {k : Nat} {l : List Nat} (h : ∀ x ∈ l, x < 1114112) : Sh k (.str (T l)) := ⟨by
  show (T l).cps.all (· < 0x110000) = true
  rw [← Array.all_toList, T_list, List.all_eq_true]
  exact fun x hx => decide_eq_true (h x hx), Nat.zero_le _⟩
theorem sh_all {k : Nat} : ∀ {ds : List PyData}, (∀ d ∈ ds, Sh k d) → PyData.canLayAll0 ds = true ∧ PyData.depthAll ds ≤ k
  | [], _ => ⟨rfl, Nat.zero_le _⟩
  | d :: ds, h => by
    obtain ⟨a, b⟩ := h d List.mem_cons_self
    obtain ⟨a2, b2⟩ := sh_all (ds := ds) fun x hx => h x (List.mem_cons_of_mem _ hx)
    refine ⟨?_, ?_⟩
    · show (d.canLay0 && PyData.canLayAll0 ds) = true
      rw [a, a2]; rfl
    · show max d.depth (PyData.depthAll ds) ≤ k
      exact Nat.max_le.mpr ⟨b, b2⟩
theorem Sh.lst {k : Nat} {ds : List PyData} (h : ∀ d ∈ ds, Sh k d) : Sh (k + 1) (.list ds) := ⟨(sh_all h).1, Nat.succ_le_succ (sh_all h).2⟩
theorem Sh.tup {k : Nat} {ds : List PyData} (h : ∀ d ∈ ds, Sh k d) : Sh (k + 1) (.tuple ds) := ⟨(sh_all h).1, Nat.succ_le_succ (sh_all h).2⟩
theorem Sh.ints {k : Nat} (l : List Int) : Sh (k + 1) (.list (l.map PyData.int)) := .lst fun d hd => by
  obtain ⟨i, _, rfl⟩ := List.mem_map.mp hd
  exact .int
theorem dpAll_ints {K : PySem.W.Frag} {F : Hp} : ∀ (l : List Int), DpAll K F (l.map V.int) (l.map PyData.int)
  | [] => .nil
  | n :: l => .cons (.int _) (dpAll_ints l)
theorem Sh.mono {k k' : Nat} {d : PyData} (h : Sh k d) (hk : k ≤ k') : Sh k' d := ⟨h.1, Nat.le_trans h.2 hk⟩
end Ss
/-! ## Reader: the model -/
namespace Ss
open PySem PySem.Spec PyProof.Rows L2
abbrev v_SMALL (_ : Ctx) : V := .str ⟨#[97, 98, 99, 100, 101, 102, 103, 104, 105, 106, 107, 108, 109, 110, 111, 112, 113, 114, 115, 116, 117, 118, 119, 120, 121, 122]⟩
abbrev v_GREAT (_ : Ctx) : V := .str ⟨#[65, 66, 67, 68, 69, 70, 71, 72, 73, 74, 75, 76, 77, 78, 79, 80, 81, 82, 83, 84, 85, 86, 87, 88, 89, 90]⟩
abbrev v_FIGURES (_ : Ctx) : V := .str ⟨#[48, 49, 50, 51, 52, 53, 54, 55, 56, 57]⟩
abbrev v_MOST_TEXT (_ : Ctx) : V := .int 4000
abbrev v_MOST_FIGURES (_ : Ctx) : V := .int 4
abbrev v_MOST_ARGUMENTS (_ : Ctx) : V := .int 4
abbrev v_BARRED (_ : Ctx) : V := .int 37
abbrev v_GAP (_ : Ctx) : V := .str ⟨#[10]⟩
/-! ### the attributes of a Reader -/
def fsReader (x0 x1 : V) : List (Str × V) := [("begun", x0), ("lost", x1)]
theorem fsReader_len {x0 x1 : V} : (fsReader x0 x1).length < 1000 := by show 2 < 1000; decide
theorem fsReader_g0 {x0 x1 : V} : (fsReader x0 x1).lookup ("begun" : Str) = some x0 := by kernel_rfl
theorem fsReader_p0 {x0 x1 y : V} : putF "begun" y (fsReader x0 x1) = fsReader y x1 := by kernel_rfl
theorem fsReader_g1 {x0 x1 : V} : (fsReader x0 x1).lookup ("lost" : Str) = some x1 := by kernel_rfl
theorem fsReader_p1 {x0 x1 y : V} : putF "lost" y (fsReader x0 x1) = fsReader x0 y := by kernel_rfl
theorem fsReader_m_dropped {x0 x1 : V} : (fsReader x0 x1).lookup ("dropped" : Str) = none := by kernel_rfl
theorem fsReader_m_left {x0 x1 : V} : (fsReader x0 x1).lookup ("left" : Str) = none := by kernel_rfl
theorem fsReader_m_feed {x0 x1 : V} : (fsReader x0 x1).lookup ("feed" : Str) = none := by kernel_rfl
theorem fsReader_m_plain {x0 x1 : V} : (fsReader x0 x1).lookup ("plain" : Str) = none := by kernel_rfl
theorem fsReader_m_read {x0 x1 : V} : (fsReader x0 x1).lookup ("read" : Str) = none := by kernel_rfl
theorem fsReader_m_can_go_on {x0 x1 : V} : (fsReader x0 x1).lookup ("can_go_on" : Str) = none := by kernel_rfl
theorem fsReader_m_whole {x0 x1 : V} : (fsReader x0 x1).lookup ("whole" : Str) = none := by kernel_rfl
/-- what is asked of the class -/
structure FReader (c : Ctx) : Prop where
  cl : Cls c.K c.cReader
  n_begun : NoAttr c.K c.cReader "begun"
  n_lost : NoAttr c.K c.cReader "lost"

/-- the signs -/
def isSign (n : Nat) : Bool := n == 10 || (decide (32 ≤ n) && decide (n ≤ 126) && n != 37)
def isSmall (n : Nat) : Bool := decide (97 ≤ n) && decide (n ≤ 122)
def isGreat (n : Nat) : Bool := decide (65 ≤ n) && decide (n ≤ 90)
def isFig (n : Nat) : Bool := decide (48 ≤ n) && decide (n ≤ 57)
/-- what signs tell -/
inductive Tk where
  | sign (n : Nat)
  | fin
  | act (w : Nat) (ns : List Nat)
  deriving DecidableEq
/-- a command that isn't whole yet -/
inductive Pre where
  | no | hat | cap (g : Nat) | op (g : Nat) (ps : List (List Nat)) (la : List Nat)
  deriving DecidableEq
def partsText (ps : List (List Nat)) : List Nat := ps.flatMap (· ++ [44])
def Pre.text : Pre → List Nat
  | .no => []
  | .hat => [94]
  | .cap g => [94, g]
  | .op g ps la => [94, g, 40] ++ (partsText ps ++ la)
def figsOk (l : List Nat) : Prop := l.length ≤ 4 ∧ ∀ x ∈ l, isFig x = true
def Pre.Wf : Pre → Prop
  | .no => True
  | .hat => True
  | .cap g => isGreat g = true
  | .op g ps la => isGreat g = true ∧ ps.length ≤ 3 ∧ (∀ p ∈ ps, p ≠ [] ∧ figsOk p) ∧ figsOk la
/-- a command goes on with a sign -/
def Pre.step (p : Pre) (n : Nat) : Option (Pre × List Tk) :=
  match p with
  | .no => none
  | .hat => if n = 94 then some (.no, [.sign 94]) else if isSmall n then some (.no, [.act n []]) else if isGreat n then some (.cap n, []) else none
  | .cap g => if n = 40 then some (.op g [] [], []) else none
  | .op g ps la =>
    if isFig n then (if la.length < 4 then some (.op g ps (la ++ [n]), []) else none)
    else if n = 44 then (if la ≠ [] ∧ ps.length < 3 then some (.op g (ps ++ [la]) [], []) else none)
    else if n = 41 ∧ (la ≠ [] ∨ ps = []) then some (.no, [.act g (if ps = [] ∧ la = [] then [] else (ps ++ [la]).map NumText.digitsVal)]) else none
/-- a reader: what is begun, how many were dropped -/
structure Rdr where
  pre : Pre
  lost : Nat
def plain (n : Nat) : Pre × List Tk := if n = 94 then (.hat, []) else if n = 10 then (.no, [.fin]) else (.no, [.sign n])
def Rdr.read (r : Rdr) (n : Nat) : Rdr × List Tk :=
  if r.pre = .no then (⟨(plain n).1, r.lost⟩, (plain n).2)
  else match r.pre.step n with
    | some (p, ts) => (⟨p, r.lost⟩, ts)
    | none => (⟨(plain n).1, r.lost + r.pre.text.length⟩, (plain n).2)
def Rdr.feed (r : Rdr) : List Nat → Rdr × List Tk
  | [] => (r, [])
  | n :: l => ((r.read n).1.feed l |>.1, (r.read n).2 ++ ((r.read n).1.feed l).2)
def Rdr.new : Rdr := ⟨.no, 0⟩
/-! ### the reader's promises hold on -/
theorem plain_wf (n : Nat) : (plain n).1.Wf := by
  unfold plain
  split
  · trivial
  · split <;> trivial
theorem step_wf {p q : Pre} {n : Nat} {ts : List Tk} (h : p.Wf) (e : p.step n = some (q, ts)) : q.Wf := by
  cases p with
  | no => cases e
  | hat =>
    unfold Pre.step at e
    dsimp only at e
    split at e
    · cases e; trivial
    · split at e
      · cases e; trivial
      · split at e
        · rename_i hg; cases e; exact hg
        · cases e
  | cap g =>
    unfold Pre.step at e
    dsimp only at e
    split at e
    · cases e; exact ⟨h, by simp, by simp, by simp [figsOk]⟩
    · cases e
  | op g ps la =>
    obtain ⟨h1, h2, h3, h4⟩ := h
    unfold Pre.step at e
    dsimp only at e
    split at e
    · rename_i hf
      split at e
      · rename_i hl
        cases e
        refine ⟨h1, h2, h3, by rw [List.length_append]; simp; omega, fun x hx => ?_⟩
        rcases List.mem_append.mp hx with hx | hx
        · exact h4.2 x hx
        · rw [List.mem_singleton.mp hx]; exact hf
      · cases e
    · split at e
      · split at e
        · rename_i hl
          cases e
          refine ⟨h1, by rw [List.length_append]; simp; omega, fun q hq => ?_, by simp [figsOk]⟩
          rcases List.mem_append.mp hq with hq | hq
          · exact h3 q hq
          · rw [List.mem_singleton.mp hq]; exact ⟨hl.1, h4⟩
        · cases e
      · split at e
        · cases e; trivial
        · cases e
theorem read_wf {r : Rdr} {n : Nat} (h : r.pre.Wf) : (r.read n).1.pre.Wf := by
  unfold Rdr.read
  split
  · exact plain_wf n
  · split
    · rename_i p ts e; exact step_wf h e
    · exact plain_wf n
theorem feed_wf {r : Rdr} : ∀ {l : List Nat}, r.pre.Wf → (r.feed l).1.pre.Wf
  | [], h => h
  | n :: l, h => feed_wf (r := (r.read n).1) (l := l) (read_wf h)
theorem feed_app (r : Rdr) : ∀ (l m : List Nat), r.feed (l ++ m) = ((r.feed l).1.feed m |>.1, (r.feed l).2 ++ ((r.feed l).1.feed m).2)
  | [], m => by simp [Rdr.feed]
  | n :: l, m => by
    show ((r.read n).1.feed (l ++ m) |>.1, (r.read n).2 ++ ((r.read n).1.feed (l ++ m)).2) = _
    rw [feed_app (r.read n).1 l m]
    simp [Rdr.feed]
theorem plain_len (n : Nat) : (plain n).2.length ≤ 1 := by
  unfold plain
  split
  · simp
  · split <;> simp
theorem read_len (r : Rdr) (n : Nat) : (r.read n).2.length ≤ 1 := by
  unfold Rdr.read
  split
  · exact plain_len n
  · split
    · rename_i p ts h
      cases hp : r.pre with
      | no => rw [hp] at h; cases h
      | hat =>
        rw [hp] at h
        unfold Pre.step at h
        dsimp only at h
        split at h
        · cases h; simp
        · split at h
          · cases h; simp
          · split at h <;> cases h; simp
      | cap g =>
        rw [hp] at h
        unfold Pre.step at h
        dsimp only at h
        split at h <;> cases h; simp
      | op g ps la =>
        rw [hp] at h
        unfold Pre.step at h
        dsimp only at h
        split at h
        · split at h <;> cases h; simp
        · split at h
          · split at h <;> cases h; simp
          · split at h <;> cases h; simp
    · exact plain_len n
theorem feed_len' (r : Rdr) : ∀ (l : List Nat), (r.feed l).2.length ≤ l.length
  | [] => Nat.le_refl _
  | n :: l => by
    have h1 := read_len r n
    have h2 := feed_len' (r.read n).1 l
    show ((r.read n).2 ++ ((r.read n).1.feed l).2).length ≤ _
    rw [List.length_append, List.length_cons]
    omega
theorem feed_len (r : Rdr) (i : Nat) (l : List Nat) : (r.feed (l.take i)).2.length ≤ i := Nat.le_trans (feed_len' r _) (by rw [List.length_take]; omega)
theorem parts_len : ∀ {ps : List (List Nat)}, (∀ p ∈ ps, p ≠ [] ∧ figsOk p) → (partsText ps).length ≤ 5 * ps.length
  | [], _ => by simp [partsText]
  | p :: ps, h => by
    have h1 := (h p List.mem_cons_self).2.1
    have h2 := parts_len (ps := ps) fun q hq => h q (List.mem_cons_of_mem _ hq)
    have e : partsText (p :: ps) = p ++ [44] ++ partsText ps := by simp [partsText]
    rw [e, List.length_append, List.length_append, List.length_cons]
    simp
    omega
theorem text_len {p : Pre} (h : p.Wf) : p.text.length ≤ 22 := by
  cases p with
  | no => simp [Pre.text]
  | hat => simp [Pre.text]
  | cap g => simp [Pre.text]
  | op g ps la =>
    have h1 := parts_len h.2.2.1
    have h2 := h.2.1
    have h3 := h.2.2.2.1
    simp only [Pre.text, List.length_append, List.length_cons, List.length_nil]
    omega
theorem text_no {p : Pre} : p.text = [] ↔ p = .no := by cases p <;> simp [Pre.text]
theorem joinL_parts : ∀ (ps : List (List Nat)) (la : List Nat), TL.joinL [44] (ps ++ [la]) = partsText ps ++ la
  | [], la => rfl
  | [p], la => by simp [partsText, TL.joinL]
  | p :: q :: ps, la => by
    have ih := joinL_parts (q :: ps) la
    show p ++ ([44] ++ TL.joinL [44] ((q :: ps) ++ [la])) = partsText (p :: q :: ps) ++ la
    rw [ih]
    simp [partsText]
theorem fig_ne {x : Nat} (h : isFig x = true) : x ≠ 44 ∧ x ≠ 40 ∧ x ≠ 41 ∧ x ≠ 94 := by
  unfold isFig at h
  simp at h
  omega
theorem fig_free {l : List Nat} (h : figsOk l) : 44 ∉ l := fun hm => (fig_ne (h.2 44 hm)).1 rfl
theorem cnt_parts : ∀ {ps : List (List Nat)}, (∀ p ∈ ps, p ≠ [] ∧ figsOk p) → cnt 44 (partsText ps) = ps.length
  | [], _ => rfl
  | p :: ps, h => by
    have e : partsText (p :: ps) = p ++ ([44] ++ partsText ps) := by simp [partsText]
    rw [e, cnt_append, cnt_append, cnt_parts fun q hq => h q (List.mem_cons_of_mem _ hq), cnt_none 44 p (fig_free (h p List.mem_cons_self).2)]
    have e2 : cnt 44 [44] = 1 := by rw [cnt_cons, cnt_nil]; rfl
    rw [e2, List.length_cons]
    omega
theorem step_cases {p q : Pre} {n : Nat} {ts : List Tk} (wf : p.Wf) (h : p.step n = some (q, ts)) :
    (p = .hat ∧ n = 94 ∧ q = .no ∧ ts = [.sign 94]) ∨ (p = .hat ∧ n ≠ 94 ∧ isSmall n = true ∧ q = .no ∧ ts = [.act n []]) ∨
    (ts = [] ∧ q.text = p.text ++ [n] ∧ n ≠ 41 ∧ p.text ++ [n] ≠ [94, 94] ∧ ¬ (p.text.length = 1 ∧ isSmall n = true) ∧ p ≠ .no) ∨
    (∃ g ps la, p = .op g ps la ∧ n = 41 ∧ (la ≠ [] ∨ ps = []) ∧ q = .no ∧ ts = [.act g (if ps = [] ∧ la = [] then [] else (ps ++ [la]).map NumText.digitsVal)]) := by
  cases p with
  | no => cases h
  | hat =>
    unfold Pre.step at h
    dsimp only at h
    by_cases h1 : n = 94
    · rw [if_pos h1] at h; cases h; exact .inl ⟨rfl, h1, rfl, rfl⟩
    · rw [if_neg h1] at h
      by_cases h2 : isSmall n = true
      · rw [if_pos h2] at h; cases h; exact .inr (.inl ⟨rfl, h1, h2, rfl, rfl⟩)
      · rw [if_neg h2] at h
        by_cases h3 : isGreat n = true
        · rw [if_pos h3] at h; cases h
          refine .inr (.inr (.inl ⟨rfl, rfl, ?_, by simp [Pre.text, h1], fun z => h2 z.2, by simp⟩))
          unfold isGreat at h3; simp at h3; omega
        · rw [if_neg h3] at h; cases h
  | cap g =>
    unfold Pre.step at h
    dsimp only at h
    by_cases h1 : n = 40
    · rw [if_pos h1] at h; cases h; subst h1
      exact .inr (.inr (.inl ⟨rfl, rfl, by decide, by simp [Pre.text], by simp [Pre.text], by simp⟩))
    · rw [if_neg h1] at h; cases h
  | op g ps la =>
    have t2 : (Pre.op g ps la).text ++ [n] ≠ [94, 94] := fun e => by
      have := congrArg List.length e
      simp [Pre.text] at this
    have t3 : ¬ ((Pre.op g ps la).text.length = 1 ∧ isSmall n = true) := fun e => by
      have := e.1
      simp [Pre.text] at this
    unfold Pre.step at h
    dsimp only at h
    by_cases h1 : isFig n = true
    · rw [if_pos h1] at h
      by_cases h2 : la.length < 4
      · rw [if_pos h2] at h; cases h
        exact .inr (.inr (.inl ⟨rfl, by simp [Pre.text], (fig_ne h1).2.2.1, t2, t3, by simp⟩))
      · rw [if_neg h2] at h; cases h
    · rw [if_neg h1] at h
      by_cases h2 : n = 44
      · rw [if_pos h2] at h
        by_cases h3 : la ≠ [] ∧ ps.length < 3
        · rw [if_pos h3] at h; cases h
          exact .inr (.inr (.inl ⟨rfl, by simp [Pre.text, partsText, h2], by omega, t2, t3, by simp⟩))
        · rw [if_neg h3] at h; cases h
      · rw [if_neg h2] at h
        by_cases h3 : n = 41 ∧ (la ≠ [] ∨ ps = [])
        · rw [if_pos h3] at h; cases h
          exact .inr (.inr (.inr ⟨g, ps, la, rfl, h3.1, h3.2, rfl, rfl⟩))
        · rw [if_neg h3] at h; cases h
theorem figs_all {l : List Nat} (h : figsOk l) : NumText.AllDigits l := fun x hx => by
  have := h.2 x hx
  unfold isFig at this
  simp at this
  exact this
/-- one thing told, as data -/
def Tk.data : Tk → PyData
  | .sign n => .tuple [.str (T [115, 105, 103, 110]), .str (T [n])]
  | .fin => .tuple [.str (T [101, 110, 100])]
  | .act w ns => .tuple [.str (T [100, 111]), .str (T [w]), .tuple (ns.map fun (n : Nat) => .int n)]
theorem isSmall_mem (n : Nat) : decide (n ∈ (T [97, 98, 99, 100, 101, 102, 103, 104, 105, 106, 107, 108, 109, 110, 111, 112, 113, 114, 115, 116, 117, 118, 119, 120, 121, 122]).cps.toList) = isSmall n := by
  rw [T_list, Bool.eq_iff_iff]
  simp only [decide_eq_true_eq, isSmall, Bool.and_eq_true, List.mem_cons, List.not_mem_nil, or_false]
  omega
theorem isFig_mem' (n : Nat) : decide (n ∈ ([48, 49, 50, 51, 52, 53, 54, 55, 56, 57] : List Nat)) = isFig n := by
  rw [Bool.eq_iff_iff]
  simp only [decide_eq_true_eq, isFig, Bool.and_eq_true, List.mem_cons, List.not_mem_nil, or_false]
  omega
theorem isSmall_mem' (n : Nat) : decide (n ∈ ([97, 98, 99, 100, 101, 102, 103, 104, 105, 106, 107, 108, 109, 110, 111, 112, 113, 114, 115, 116, 117, 118, 119, 120, 121, 122] : List Nat)) = isSmall n := by
  rw [Bool.eq_iff_iff]
  simp only [decide_eq_true_eq, isSmall, Bool.and_eq_true, List.mem_cons, List.not_mem_nil, or_false]
  omega
theorem isFig_mem (n : Nat) : decide (n ∈ (T [48, 49, 50, 51, 52, 53, 54, 55, 56, 57]).cps.toList) = isFig n := by
  rw [T_list, Bool.eq_iff_iff]
  simp only [decide_eq_true_eq, isFig, Bool.and_eq_true, List.mem_cons, List.not_mem_nil, or_false]
  omega
end Ss
/-! ## Reader: promises and readings -/
namespace Ss
open PySem PySem.Spec PyProof.Rows L2
open Ss in
local macro_rules | `(tactic| walk_at "fg") => `(tactic| first | with_reducible exact fsReader_g0 | with_reducible exact fsReader_g1)
open Ss in
local macro_rules | `(tactic| walk_at "r") => `(tactic| repeat (first
  | with_reducible refine x_seq ?_ | with_reducible refine x_asg ?_ | with_reducible refine x_var rfl ?_ | with_reducible refine x_c ?_ | with_reducible refine x_op ?_ | with_reducible refine x_name ?_ | with_reducible refine x_gcons ?_ | with_reducible refine x_gnil ?_
  | with_reducible refine x_cons ?_ | with_reducible refine x_nil ?_ | with_reducible refine x_cb ?_ | with_reducible refine x_ifs ?_ | with_reducible refine x_test ?_ | with_reducible refine x_bl ?_
  | with_reducible refine g_addNN ?_ | with_reducible refine g_addNL ?_ | with_reducible refine g_addLN ?_ | with_reducible refine l_addI ?_ | with_reducible refine l_subI ?_ | with_reducible refine g_ltNL ?_ | with_reducible refine l_ltI ?_ | with_reducible refine l_leI ?_ | with_reducible refine l_gtI ?_ | with_reducible refine l_geI ?_ | with_reducible refine l_eqX ?_ | with_reducible refine l_neX ?_ | with_reducible refine g_eqNL ?_ | with_reducible refine l_eqII ?_ | with_reducible refine l_neII ?_ | with_reducible refine l_eq rfl ?_ | with_reducible refine l_ne rfl ?_
  | with_reducible refine x_fld ?_ | with_reducible refine x_ret ?_ | with_reducible refine x_drop ?_ | with_reducible refine x_next ?_ | with_reducible refine x_tup ?_ | with_reducible refine x_lst ?_ | with_reducible refine x_f ?_ | with_reducible refine x_o ?_ | with_reducible refine x_n ?_
  | with_reducible refine x_bm ?_ | with_reducible refine x_bm0 ?_ | with_reducible refine x_m1 ?_ | with_reducible refine x_m0 ?_ | with_reducible refine x_isstr ?_ | with_reducible refine x_tystr ?_ | with_reducible refine x_sl ?_ | with_reducible refine x_part ?_ | with_reducible refine x_part' ?_ | with_reducible refine x_nopart ?_
  | with_reducible refine x_sfld ?_ | with_reducible refine x_if ?_ | with_reducible refine x_isty ?_ | with_reducible refine x_chain ?_ | with_reducible refine x_andV ?_ | with_reducible refine x_orV ?_ | with_reducible refine x_notV ?_ | with_reducible refine x_B ?_ | with_reducible refine x_and ?_ | with_reducible refine x_or ?_ | with_reducible refine x_not ?_ | with_reducible refine x_tru ?_ | with_reducible refine x_yes ?_
  | with_reducible refine x_un ?_ | with_reducible refine x_neg ?_ | with_reducible refine x_par ?_ | with_reducible refine x_par' ?_ | with_reducible refine x_retN ?_ | with_reducible refine x_brk ?_ | with_reducible refine x_cont ?_ | with_reducible refine x_rz ?_
  | with_reducible refine l_leS ?_ | with_reducible refine l_ltS ?_ | with_reducible refine l_inX ?_ | with_reducible refine l_niX ?_ | with_reducible refine l_inS ?_ | with_reducible refine l_niS ?_ | with_reducible refine l_count ?_ | with_reducible refine l_ord ?_ | with_reducible refine l_max ?_ | with_reducible refine l_min ?_ | with_reducible refine l_intI ?_ | with_reducible refine l_intB ?_ | with_reducible refine l_is ?_ | with_reducible refine l_isn ?_
  | with_reducible refine g_modNL (by decide) ?_ | with_reducible refine g_divNL (by decide) (by decide) ?_ | with_reducible refine l_modI (by decide) ?_ | with_reducible refine x_for ?_ | with_reducible refine x_lc ?_ | with_reducible refine x_ilist ?_ | with_reducible refine x_itup ?_ | with_reducible refine x_istr ?_ | with_reducible refine x_istr' ?_ | with_reducible refine x_irng1 ?_ | with_reducible refine x_irng2 ?_
  | (with_reducible refine x_get (by first | assumption | exact Hold.get0 (by assumption) | exact Hold.get1 (by assumption)) (by assumption) (by assumption) (by walk_at "fg") ?_)
  | (with_reducible refine x_ao (by first | assumption | exact Hold.get0 (by assumption) | exact Hold.get1 (by assumption)) (by kernel_rfl) ?_)
  | with_reducible refine x_ienum ?_ | with_reducible refine x_izip ?_ | with_reducible refine x_chain3 ?_
  | (with_reducible refine x_par2 ?_)
  | (with_reducible refine x_par3 ?_) | (with_reducible refine x_par3' ?_)))
/-- a reader as it lies: the signs begun, how many were lost -/
abbrev rdRaw (c : Ctx) (dx : Addr) (b : List Nat) (lost : Nat) : HO := .ins c.cReader dx (fsReader (.str (T b)) (.int lost))
abbrev rdO (c : Ctx) (dx : Addr) (r : Rdr) : HO := rdRaw c dx r.pre.text r.lost
/-- a list of things told is handed back, never to be written -/
abbrev RetToks (c : Ctx) (F : Hp) (L : List (Addr × HO)) (ts : List Tk) (Q : VK) : Prop := ∀ (r : Addr) (xs : List V) (F' H' : Hp), Same F F' → F' r = some (.lst xs) → DpAll c.K F' xs (ts.map Tk.data) → Hold F' L H' → Q (.ref r) H'
def sp_is_sign (c : Ctx) : Sp := fun vs H Q _ => ∃ n, vs = [.str (T [n])] ∧ Q (.bl (isSign n)) H
def okText : V → Bool
  | .str z => decide (z.length ≤ 4000) && z.cps.toList.all isSign
  | _ => false
/-- a text, or a thing that is none -/
def TextArg (c : Ctx) (H : Hp) (x : V) : Prop := (∃ l, x = .str (T l) ∧ l.length ≤ 1000000) ∨ ((∃ t, TyX c.K H x (.type t) ∧ kitB t "str" = some false) ∧ ∀ z, x ≠ .str z)
def sp_need_text (c : Ctx) : Sp := fun vs H Q E => ∃ x F L, vs = [x] ∧ TextArg c F x ∧ Hold F L H ∧
  (okText x = true → ∀ F' H', Same F F' → Hold F' L H' → Q .non H') ∧ (okText x = false → ∀ F' H', Same F F' → Hold F' L H' → E (.ref c.cBadText) none H')
def sp_Reader_init (c : Ctx) : Sp := fun vs H Q _ => ∃ a dx F L, vs = [.ref a] ∧ Hold F ((a, .ins c.cReader dx []) :: L) H ∧ ∀ H', Hold F ((a, rdO c dx Rdr.new) :: L) H' → Q .non H'
def sp_Reader_dropped (c : Ctx) : Sp := fun vs H Q _ => ∃ a dx b lost F L, vs = [.ref a] ∧ Hold F ((a, rdRaw c dx b lost) :: L) H ∧ Q (.int lost) H
def sp_Reader_left (c : Ctx) : Sp := fun vs H Q _ => ∃ a dx b lost F L, vs = [.ref a] ∧ Hold F ((a, rdRaw c dx b lost) :: L) H ∧ Q (.str (T b)) H
def sp_Reader_plain (c : Ctx) : Sp := fun vs H Q _ => ∃ a dx b lost n F L, vs = [.ref a, .str (T [n])] ∧ Hold F ((a, rdRaw c dx b lost) :: L) H ∧ RetToks c F ((a, rdRaw c dx (if n = 94 then [94] else b) lost) :: L) (plain n).2 Q
def sp_Reader_can_go_on (c : Ctx) : Sp := fun vs H Q _ => ∃ a dx p lost n F L, vs = [.ref a, .str (T [n])] ∧ Hold F ((a, rdRaw c dx (Pre.text p) lost) :: L) H ∧ p.Wf ∧ p ≠ .no ∧
  ∀ F' H', Same F F' → Hold F' ((a, rdRaw c dx p.text lost) :: L) H' → Q (.bl (p.step n).isSome) H'
def sp_Reader_whole (c : Ctx) : Sp := fun vs H Q _ => ∃ a dx p q ts lost n F L, vs = [.ref a] ∧ Hold F ((a, rdRaw c dx (Pre.text p ++ [n]) lost) :: L) H ∧ p.Wf ∧ p.step n = some (q, ts) ∧ RetToks c F ((a, rdRaw c dx q.text lost) :: L) ts Q
def sp_Reader_read (c : Ctx) : Sp := fun vs H Q _ => ∃ a dx r n F L, vs = [.ref a, .str (T [n])] ∧ Hold F ((a, rdO c dx r) :: L) H ∧ r.pre.Wf ∧ RetToks c F ((a, rdO c dx (r.read n).1) :: L) (r.read n).2 Q
def sp_Reader_feed (c : Ctx) : Sp := fun vs H Q E => ∃ a dx r x F L, vs = [.ref a, x] ∧ TextArg c F x ∧ Hold F ((a, rdO c dx r) :: L) H ∧ r.pre.Wf ∧
  (∀ l, x = .str (T l) → okText x = true → ∀ (p : Addr) xs F' H', Same F F' → DpAll c.K F' xs ((r.feed l).2.map Tk.data) → Hold F' ((p, .lst xs) :: (a, rdO c dx (r.feed l).1) :: L) H' → Q (.ref p) H') ∧
  (okText x = false → ∀ F' H', Same F F' → Hold F' ((a, rdO c dx r) :: L) H' → E (.ref c.cBadText) none H')
def sp_told (c : Ctx) : Sp := fun vs H Q E => ∃ x F L, vs = [x] ∧ TextArg c F x ∧ Hold F L H ∧
  (∀ l, x = .str (T l) → okText x = true → ∀ (p : Addr) xs F' H', Same F F' → DpAll c.K F' xs ((Rdr.new.feed l).2.map Tk.data) → Hold F' ((p, .lst xs) :: L) H' → Q (.ref p) H') ∧
  (okText x = false → ∀ F' H', Same F F' → Hold F' L H' → E (.ref c.cBadText) none H')
def t_is_sign (c : Ctx) (E : XK) : TS :=
  (tRet (tOrV (tOp (uEq c.K) (tVar 0) (tC (v_GAP c))) (tAndV (tChain uLe uLe (tC (.str ⟨#[32]⟩)) (tVar 0) (tC (.str ⟨#[126]⟩))) (tOp (uNe c.K) (tCB uOrd (tCons (tVar 0) tNil)) (tC (v_BARRED c))))))
abbrev N_is_sign : List Str := ["sign"]

def t_need_text (c : Ctx) (E : XK) : TS :=
  (tIfS (tOr (tNot (tB (tIsTy c.K (tVar 0) "str"))) (tOr (tTest (tOp uGt (tCB (uLen c.K) (tCons (tVar 0) tNil)) (tC (v_MOST_TEXT c)))) (tNot (tB (tCB (rAll c.K) (tCons (tLc (iStr (tVar 0)) (gName 1) tYes (tF (sp_is_sign c) E0 (tCons (tVar 1) tNil)) [1]) tNil)))))) (tRz c.cBadText E) tNext)
abbrev N_need_text : List Str := ["text", "sign"]

def t_Reader_init (c : Ctx) (E : XK) : TS :=
  (tSeq (sFld c.K (tVar 0) (tC (.str ⟨#[]⟩)) "begun")
  (sFld c.K (tVar 0) (tC (.int 0)) "lost"))
abbrev N_Reader_init : List Str := ["self"]

def t_Reader_dropped (c : Ctx) (E : XK) : TS :=
  (tRet (tFld c.K (tVar 0) "lost"))
abbrev N_Reader_dropped : List Str := ["self"]

def t_Reader_left (c : Ctx) (E : XK) : TS :=
  (tRet (tFld c.K (tVar 0) "begun"))
abbrev N_Reader_left : List Str := ["self"]

def t_Reader_plain (c : Ctx) (E : XK) : TS :=
  (tSeq (tIfS (tTest (tOp (uEq c.K) (tVar 1) (tC (.str ⟨#[94]⟩)))) (tSeq (sFld c.K (tVar 0) (tC (.str ⟨#[94]⟩)) "begun")
  (tRet (tLst tNil))) tNext)
  (tRet (tIf (tTest (tOp (uEq c.K) (tVar 1) (tC (v_GAP c)))) (tLst (tCons (tTup (tCons (tC (.str ⟨#[101, 110, 100]⟩)) tNil)) tNil)) (tLst (tCons (tTup (tCons (tC (.str ⟨#[115, 105, 103, 110]⟩)) (tCons (tVar 1) tNil))) tNil)))))
abbrev N_Reader_plain : List Str := ["self", "sign"]

def t_Reader_can_go_on (c : Ctx) (E : XK) : TS :=
  (tSeq (tIfS (tTest (tOp (uEq c.K) (tCB (uLen c.K) (tCons (tFld c.K (tVar 0) "begun") tNil)) (tC (.int 1)))) (tRet (tOp (uIn c.K) (tVar 1) (tOp (uAdd c.K) (tOp (uAdd c.K) (tC (v_SMALL c)) (tC (v_GREAT c))) (tC (.str ⟨#[94]⟩))))) tNext)
  (tSeq (tIfS (tTest (tOp (uEq c.K) (tCB (uLen c.K) (tCons (tFld c.K (tVar 0) "begun") tNil)) (tC (.int 2)))) (tRet (tOp (uEq c.K) (tVar 1) (tC (.str ⟨#[40]⟩)))) tNext)
  (tSeq (tAsg (tOp (uIx c.K) (tM1 u_split (tSl (uSl c.K) (tFld c.K (tVar 0) "begun") (tPart (tC (.int 3))) tNoPart) (tC (.str ⟨#[44]⟩))) (tUn (rU fun i => .int (-i)) (tC (.int 1)))) (gName 2))
  (tSeq (tIfS (tTest (tOp (uIn c.K) (tVar 1) (tC (v_FIGURES c)))) (tRet (tOp uLt (tCB (uLen c.K) (tCons (tVar 2) tNil)) (tC (v_MOST_FIGURES c)))) tNext)
  (tSeq (tIfS (tTest (tOp (uEq c.K) (tVar 1) (tC (.str ⟨#[44]⟩)))) (tRet (tAndV (tOp (uNe c.K) (tVar 2) (tC (.str ⟨#[]⟩))) (tOp uLt (tM1 u_count (tFld c.K (tVar 0) "begun") (tC (.str ⟨#[44]⟩))) (tOp uSub (tC (v_MOST_ARGUMENTS c)) (tC (.int 1)))))) tNext)
  (tRet (tAndV (tOp (uEq c.K) (tVar 1) (tC (.str ⟨#[41]⟩))) (tOrV (tOp (uNe c.K) (tVar 2) (tC (.str ⟨#[]⟩))) (tOp (uEq c.K) (tOp (uIx c.K) (tFld c.K (tVar 0) "begun") (tUn (rU fun i => .int (-i)) (tC (.int 1)))) (tC (.str ⟨#[40]⟩)))))))))))
abbrev N_Reader_can_go_on : List Str := ["self", "sign", "last"]

def t_Reader_whole (c : Ctx) (E : XK) : TS :=
  (tSeq (tAsg (tFld c.K (tVar 0) "begun") (gName 1))
  (tSeq (tIfS (tTest (tOp (uEq c.K) (tVar 1) (tC (.str ⟨#[94, 94]⟩)))) (tSeq (sFld c.K (tVar 0) (tC (.str ⟨#[]⟩)) "begun")
  (tRet (tLst (tCons (tTup (tCons (tC (.str ⟨#[115, 105, 103, 110]⟩)) (tCons (tC (.str ⟨#[94]⟩)) tNil))) tNil)))) tNext)
  (tSeq (tIfS (tAnd (tTest (tOp (uEq c.K) (tCB (uLen c.K) (tCons (tVar 1) tNil)) (tC (.int 2)))) (tTest (tOp (uIn c.K) (tOp (uIx c.K) (tVar 1) (tC (.int 1))) (tC (v_SMALL c))))) (tSeq (sFld c.K (tVar 0) (tC (.str ⟨#[]⟩)) "begun")
  (tRet (tLst (tCons (tTup (tCons (tC (.str ⟨#[100, 111]⟩)) (tCons (tOp (uIx c.K) (tVar 1) (tC (.int 1))) (tCons (tTup tNil) tNil)))) tNil)))) tNext)
  (tSeq (tIfS (tTest (tOp (uNe c.K) (tOp (uIx c.K) (tVar 1) (tUn (rU fun i => .int (-i)) (tC (.int 1)))) (tC (.str ⟨#[41]⟩)))) (tRet (tLst tNil)) tNext)
  (tSeq (sFld c.K (tVar 0) (tC (.str ⟨#[]⟩)) "begun")
  (tSeq (tAsg (tSl (uSl c.K) (tVar 1) (tPart (tC (.int 3))) (tPart (tUn (rU fun i => .int (-i)) (tC (.int 1))))) (gName 2))
  (tRet (tLst (tCons (tTup (tCons (tC (.str ⟨#[100, 111]⟩)) (tCons (tOp (uIx c.K) (tVar 1) (tC (.int 1))) (tCons (tIf (tTest (tOp (uNe c.K) (tVar 2) (tC (.str ⟨#[]⟩)))) (tCB (uTuple c.K) (tCons (tLc (iList c.K (tM1 u_split (tVar 2) (tC (.str ⟨#[44]⟩)))) (gName 3) tYes (tCB uInt (tCons (tVar 3) tNil)) [3]) tNil)) (tTup tNil)) tNil)))) tNil)))))))))
abbrev N_Reader_whole : List Str := ["self", "word", "rest", "one"]

def t_Reader_read (c : Ctx) (E : XK) : TS :=
  (tSeq (tIfS (tTest (tOp (uEq c.K) (tFld c.K (tVar 0) "begun") (tC (.str ⟨#[]⟩)))) (tRet (tO c.cReader "plain" (sp_Reader_plain c) E0 (tVar 0) (tCons (tVar 1) tNil))) tNext)
  (tSeq (tIfS (tB (tO c.cReader "can_go_on" (sp_Reader_can_go_on c) E0 (tVar 0) (tCons (tVar 1) tNil))) (tSeq (sFld c.K (tVar 0) (tOp (uAdd c.K) (tFld c.K (tVar 0) "begun") (tVar 1)) "begun")
  (tRet (tO c.cReader "whole" (sp_Reader_whole c) E0 (tVar 0) tNil))) tNext)
  (tSeq (sFld c.K (tVar 0) (tOp (uAdd c.K) (tFld c.K (tVar 0) "lost") (tCB (uLen c.K) (tCons (tFld c.K (tVar 0) "begun") tNil))) "lost")
  (tSeq (sFld c.K (tVar 0) (tC (.str ⟨#[]⟩)) "begun")
  (tRet (tO c.cReader "plain" (sp_Reader_plain c) E0 (tVar 0) (tCons (tVar 1) tNil)))))))
abbrev N_Reader_read : List Str := ["self", "sign"]

def t_Reader_feed (c : Ctx) (E : XK) : TS :=
  (tSeq (tDrop (tF (sp_need_text c) E (tCons (tVar 1) tNil)))
  (tSeq (tAsg (tLst tNil) (gName 2))
  (tSeq (tFor (iStr (tVar 1)) (gName 3) (tDrop (tBM c.K "list" rExtend (tVar 2) (tCons (tO c.cReader "read" (sp_Reader_read c) E0 (tVar 0) (tCons (tVar 3) tNil)) tNil))))
  (tRet (tVar 2)))))
abbrev N_Reader_feed : List Str := ["self", "text", "found", "sign"]

def t_told (c : Ctx) (E : XK) : TS :=
  (tRet (tO c.cReader "feed" (sp_Reader_feed c) E (tN c.cReader (sp_Reader_init c) E0 tNil) (tCons (tVar 0) tNil)))
abbrev N_told : List Str := ["text"]

section
variable {c : Ctx}
theorem rd_is_sign : RD N_is_sign (t_is_sign c) (sp_is_sign c) := by
  rintro vs H Q E ⟨n, rfl, k⟩
  unfold t_is_sign
  walk_at "r"
  refine wD (fun h => ?_) (fun h => ?_)
  · have e : n = 10 := one1.mp h
    subst e; exact k
  · have e : n ≠ 10 := fun z => h (one1.mpr z)
    walk_at "r"
    have e1 : (!decide ((T [n]).cps.toList < ([32] : List Nat))) = decide (32 ≤ n) := by
      rw [T_list, lt1, Bool.eq_iff_iff]; simp
    have e2 : (!decide (([126] : List Nat) < (T [n]).cps.toList)) = decide (n ≤ 126) := by
      rw [T_list, lt1, Bool.eq_iff_iff]; simp
    have ek : ∀ b1 b2 b3 : Bool, (n == 10) = false := fun _ _ _ => by simpa using e
    refine w2 (fun h1 => ?_) (fun h1 => ?_)
    · walk_at "r"
      refine w2 (fun h2 => ?_) (fun h2 => ?_)
      · walk_at "r"
        have z : isSign n = !decide (((n : Nat) : Int) = 37) := by
          have a1 : decide (32 ≤ n) = true := e1.symm.trans h1
          have a2 : decide (n ≤ 126) = true := e2.symm.trans h2
          have a3 : decide (((n : Nat) : Int) = 37) = (n == 37) := by
            rw [Bool.eq_iff_iff]; simp; omega
          rw [a3]
          unfold isSign
          rw [a1, a2, ek true true true]
          simp [bne]
        rw [z] at k
        exact k
      · have a2 : decide (n ≤ 126) = false := e2.symm.trans h2
        have z : isSign n = false := by unfold isSign; rw [a2, ek true true true]; simp
        rw [z] at k; exact k
    · have a1 : decide (32 ≤ n) = false := e1.symm.trans h1
      walk_at "r"
      refine wF rfl ?_
      have z : isSign n = false := by unfold isSign; rw [a1, ek true true true]; simp
      rw [z] at k; exact k
theorem rd_Reader_init (R : FReader c) : RD N_Reader_init (t_Reader_init c) (sp_Reader_init c) := by
  obtain ⟨cl, n1, n2⟩ := R
  rintro vs H Q E ⟨a, dx, F, L, rfl, W, k⟩
  unfold t_Reader_init
  walk_at "r"
  refine x_put0 W cl n1 (by show 0 < 1000; decide) rfl fun H1 W1 => ?_
  walk_at "r"
  exact x_put0 W1 cl n2 (by show 1 < 1000; decide) (by kernel_rfl) fun H2 W2 => k _ W2
theorem rd_Reader_dropped (R : FReader c) : RD N_Reader_dropped (t_Reader_dropped c) (sp_Reader_dropped c) := by
  obtain ⟨cl, n1, n2⟩ := R
  rintro vs H Q E ⟨a, dx, b, lost, F, L, rfl, W, k⟩
  unfold t_Reader_dropped
  walk_at "r"
  exact k
theorem rd_Reader_left (R : FReader c) : RD N_Reader_left (t_Reader_left c) (sp_Reader_left c) := by
  obtain ⟨cl, n1, n2⟩ := R
  rintro vs H Q E ⟨a, dx, b, lost, F, L, rfl, W, k⟩
  unfold t_Reader_left
  walk_at "r"
  exact k
theorem rd_Reader_plain (R : FReader c) : RD N_Reader_plain (t_Reader_plain c) (sp_Reader_plain c) := by
  obtain ⟨cl, n1, n2⟩ := R
  rintro vs H Q E ⟨a, dx, b, lost, n, F, L, rfl, W, k⟩
  unfold t_Reader_plain
  walk_at "r"
  refine wD (fun h => ?_) (fun h => ?_)
  · have e : n = 94 := one1.mp h
    walk_at "r"
    refine x_put0 W cl n1 fsReader_len fsReader_p0 fun H1 W1 => ?_
    walk_at "r"
    refine n_lstF W1 (sz rfl) fun p F' H' s h' W' => ?_
    subst e
    exact k p [] F' H' s h' .nil W'
  · have e : n ≠ 94 := fun z => h (one1.mpr z)
    rw [if_neg e] at k
    walk_at "r"
    refine wD (fun h1 => ?_) (fun h1 => ?_)
    · have e1 : n = 10 := one1.mp h1
      subst e1
      walk_at "r"
      refine n_tupF W (sz rfl) fun p1 F1 H1 s1 h1 W1 => ?_
      refine n_lstF W1 (sz rfl) fun p F' H' s h' W' => ?_
      refine k p _ F' H' (s1.trans s) h' (.cons (.tup (st_of (s _ _ h1)) (.cons (.str _) .nil)) .nil) W'
    · have e1 : n ≠ 10 := fun z => h1 (one1.mpr z)
      walk_at "r"
      refine n_tupF W (sz rfl) fun p1 F1 H1 s1 h1 W1 => ?_
      refine n_lstF W1 (sz rfl) fun p F' H' s h' W' => ?_
      unfold plain at k
      rw [if_neg e, if_neg e1] at k
      refine k p _ F' H' (s1.trans s) h' (.cons (.tup (st_of (s _ _ h1)) (.cons (.str _) (.cons (.str _) .nil))) .nil) W'
theorem rd_Reader_can_go_on (R : FReader c) : RD N_Reader_can_go_on (t_Reader_can_go_on c) (sp_Reader_can_go_on c) := by
  obtain ⟨cl, n1, n2⟩ := R
  rintro vs H Q E ⟨a, dx, p, lost, n, F, L, rfl, W, wf, hne, k⟩
  have hlen := text_len wf
  unfold t_Reader_can_go_on
  walk_at "r"
  refine l_lenX (by omega) ?_
  walk_at "r"
  cases p with
  | no => exact absurd rfl hne
  | hat =>
    refine wT rfl ?_
    walk_at "r"
    refine l_addX (by decide) ?_
    walk_at "r"
    refine l_addX (by decide) ?_
    walk_at "r"
    have e : decide (n ∈ ([97, 98, 99, 100, 101, 102, 103, 104, 105, 106, 107, 108, 109, 110, 111, 112, 113, 114, 115, 116, 117, 118, 119, 120, 121, 122] ++ [65, 66, 67, 68, 69, 70, 71, 72, 73, 74, 75, 76, 77, 78, 79, 80, 81, 82, 83, 84, 85, 86, 87, 88, 89, 90] ++ [94] : List Nat)) = (Pre.hat.step n).isSome := by
      unfold Pre.step
      dsimp only
      rw [Bool.eq_iff_iff]
      simp only [decide_eq_true_eq, List.cons_append, List.nil_append, List.mem_cons, List.not_mem_nil, or_false]
      by_cases h1 : n = 94
      · subst h1; simp
      · rw [if_neg h1]
        by_cases h2 : isSmall n = true
        · rw [if_pos h2]
          unfold isSmall at h2
          simp at h2
          simp
          omega
        · rw [if_neg h2]
          by_cases h3 : isGreat n = true
          · rw [if_pos h3]
            unfold isGreat at h3
            simp at h3
            simp
            omega
          · rw [if_neg h3]
            unfold isSmall at h2
            unfold isGreat at h3
            simp at h2 h3
            simp
            omega
    rw [e]
    exact k F H (Same.refl F) W
  | cap g =>
    refine wF rfl ?_
    walk_at "r"
    refine l_lenX (by omega) ?_
    walk_at "r"
    refine wT rfl ?_
    walk_at "r"
    have e : decide (([n] : List Nat) = [40]) = ((Pre.cap g).step n).isSome := by
      unfold Pre.step
      dsimp only
      by_cases h1 : n = 40
      · subst h1; simp
      · rw [if_neg h1]; simp [h1]
    rw [e]
    exact k F H (Same.refl F) W
  | op g ps la =>
    obtain ⟨w1, w2', w3, w4⟩ := id wf
    have hl3 : 3 ≤ (Pre.op g ps la).text.length := by simp [Pre.text]
    refine wF (decide_eq_false (by omega)) ?_
    walk_at "r"
    refine l_lenX (by omega) ?_
    walk_at "r"
    refine wF (decide_eq_false (by omega)) ?_
    walk_at "r"
    refine l_slX (by omega) ?_
    walk_at "r"
    have e1 : cutL (Pre.op g ps la).text (some 3) none = TL.joinL [44] (ps ++ [la]) := by
      rw [joinL_parts]
      exact cutL_from (Pre.op g ps la).text 3
    rw [e1]
    have hjl : (TL.joinL [44] (ps ++ [la])).length ≤ 100 := by
      rw [joinL_parts, List.length_append]
      have := parts_len w3
      have := w4.1
      omega
    refine l_split W (by decide) (by omega) (by simp) (fun q hq => ?_) fun r1 F1 H1 s1 h1 W1 => ?_
    · rcases List.mem_append.mp hq with hq | hq
      · exact fig_free (w3 q hq).2
      · rw [List.mem_singleton.mp hq]; exact fig_free w4
    walk_at "r"
    rw [List.map_append, List.map_cons, List.map_nil] at h1
    refine l_ixL (sq_of (W1.old _ _ h1)) atI_last ?_
    walk_at "r"
    rw [isFig_mem']
    refine w2 (fun hf => ?_) (fun hf => ?_)
    · walk_at "r"
      refine l_lenX (by have := w4.1; omega) ?_
      walk_at "r"
      have e : decide (la.length < 4) = ((Pre.op g ps la).step n).isSome := by
        unfold Pre.step
        dsimp only
        rw [if_pos hf]
        by_cases h : la.length < 4
        · rw [if_pos h]; simp; first | done | omega
        · rw [if_neg h]; simp; first | done | omega
      rw [e]
      exact k F1 H1 s1 W1
    · have hf' : ¬ isFig n = true := by rw [hf]; decide
      walk_at "r"
      refine wD (fun hc => ?_) (fun hc => ?_)
      · have hn : n = 44 := one1.mp hc
        walk_at "r"
        have e : ∀ b : Bool, b = decide (la ≠ [] ∧ ps.length < 3) → b = ((Pre.op g ps la).step n).isSome := by
          intro b hb
          unfold Pre.step
          dsimp only
          rw [if_neg hf', if_pos hn, hb]
          by_cases h : la ≠ [] ∧ ps.length < 3
          · rw [if_pos h, decide_eq_true h]; rfl
          · rw [if_neg h, decide_eq_false h]; rfl
        refine wN (fun h => ?_) (fun h => ?_)
        · walk_at "r"
          have ec : cnt 44 (Pre.op g ps la).text = ps.length := by
            show cnt 44 ([94, g, 40] ++ (partsText ps ++ la)) = _
            rw [cnt_append, cnt_append, cnt_parts w3, cnt_none 44 la (fig_free w4)]
            have : cnt 44 [94, g, 40] = 0 := cnt_none 44 _ (by
              unfold isGreat at w1
              simp at w1
              simp; omega)
            rw [this]; omega
          rw [ec]
          rw [e (decide ((ps.length : Int) < 4 - 1)) (by rw [Bool.eq_iff_iff]; simp [h]; omega)]
          exact k F1 H1 s1 W1
        · have z := e false (by simp [h])
          rw [z]
          exact k F1 H1 s1 W1
      · have hn : n ≠ 44 := fun z => hc (one1.mpr z)
        walk_at "r"
        have e : ∀ b : Bool, b = decide (n = 41 ∧ (la ≠ [] ∨ ps = [])) → b = ((Pre.op g ps la).step n).isSome := by
          intro b hb
          unfold Pre.step
          dsimp only
          rw [if_neg hf', if_neg hn, hb]
          by_cases h : n = 41 ∧ (la ≠ [] ∨ ps = [])
          · rw [if_pos h, decide_eq_true h]; rfl
          · rw [if_neg h, decide_eq_false h]; rfl
        refine wD (fun h => ?_) (fun h => ?_)
        · have h41 : n = 41 := one1.mp h
          walk_at "r"
          refine wN (fun h => ?_) (fun h => ?_)
          · rw [e true (by simp [h41, h])]
            exact k F1 H1 s1 W1
          · walk_at "r"
            have hla : la = [] := h
            cases ps with
            | nil =>
              refine l_ixX (n := 40) (by omega) (by rw [hla]; show atI ([94, g] ++ [40]) (-1) = _; exact atI_last) ?_
              walk_at "r"
              have z := e true (by simp [h41])
              have z2 : decide (([40] : List Nat) = [40]) = true := rfl
              rw [z2, z]
              exact k F1 H1 s1 W1
            | cons q qs =>
              obtain ⟨ini, he⟩ : ∃ ini, (Pre.op g (q :: qs) la).text = ini ++ [44] := by
                rw [hla]
                have : ∀ (ps : List (List Nat)), ps ≠ [] → ∃ i, partsText ps = i ++ [44] := by
                  intro ps hp
                  obtain ⟨pi, pl, rfl⟩ : ∃ pi pl, ps = pi ++ [pl] := ⟨ps.dropLast, ps.getLast hp, (List.dropLast_concat_getLast hp).symm⟩
                  exact ⟨partsText pi ++ pl, by simp [partsText]⟩
                obtain ⟨i, hi⟩ := this (q :: qs) (by simp)
                exact ⟨[94, g, 40] ++ i, by simp [Pre.text, hi]⟩
              refine l_ixX (n := 44) (by omega) (by rw [he]; exact atI_last) ?_
              walk_at "r"
              have z := e false (by simp [h41, hla])
              have z2 : decide (([44] : List Nat) = [40]) = false := by decide
              rw [z2, z]
              exact k F1 H1 s1 W1
        · have z := e false (by
            have : n ≠ 41 := fun z => h (one1.mpr z)
            simp [this])
          rw [z]
          exact k F1 H1 s1 W1
theorem rd_Reader_whole (R : FReader c) : RD N_Reader_whole (t_Reader_whole c) (sp_Reader_whole c) := by
  obtain ⟨cl, n1, n2⟩ := R
  rintro vs H Q E ⟨a, dx, p, q, ts, lost, n, F, L, rfl, W, wf, hs, k⟩
  have hlen := text_len wf
  have hl1 : (p.text ++ [n]).length = p.text.length + 1 := by simp
  unfold t_Reader_whole
  walk_at "r"
  rcases step_cases wf hs with ⟨rfl, rfl, rfl, rfl⟩ | ⟨rfl, h94, hsm, rfl, rfl⟩ | ⟨rfl, hq, h41, h2, h3, h4⟩ | ⟨g, ps, la, rfl, rfl, hla, rfl, rfl⟩
  · refine wT (decide_eq_true rfl) ?_
    walk_at "r"
    refine x_put0 W cl n1 fsReader_len fsReader_p0 fun H1 W1 => ?_
    walk_at "r"
    refine n_tupF W1 (sz rfl) fun p1 F1 H1 s1 h1 W1 => ?_
    refine n_lstF W1 (sz rfl) fun p F' H' s h' W' => ?_
    exact k p _ F' H' (s1.trans s) h' (.cons (.tup (st_of (s _ _ h1)) (.cons (.str _) (.cons (.str _) .nil))) .nil) W'
  · refine wF (decide_eq_false (by simp [Pre.text, h94])) ?_
    walk_at "r"
    refine l_lenX (by omega) ?_
    walk_at "r"
    refine wT (decide_eq_true (by rw [hl1]; rfl)) ?_
    walk_at "r"
    refine l_ixX (n := n) (i := 1) (by omega) rfl ?_
    walk_at "r"
    rw [isSmall_mem']
    refine wT hsm ?_
    walk_at "r"
    refine x_put0 W cl n1 fsReader_len fsReader_p0 fun H1 W1 => ?_
    walk_at "r"
    refine l_ixX (n := n) (i := 1) (by omega) rfl ?_
    walk_at "r"
    refine n_tupF W1 (sz rfl) fun p0 F0 H0 s0 h0 W0 => ?_
    walk_at "r"
    refine n_tupF W0 (sz rfl) fun p1 F1 H1 s1 h1 W1 => ?_
    refine n_lstF W1 (sz rfl) fun p F' H' s h' W' => ?_
    exact k p _ F' H' ((s0.trans s1).trans s) h' (.cons (.tup (st_of (s _ _ h1)) (.cons (.str _) (.cons (.str _) (.cons (.tup (st_of ((s1.trans s) _ _ h0)) .nil) .nil)))) .nil) W'
  · refine wF (decide_eq_false h2) ?_
    walk_at "r"
    refine l_lenX (by omega) ?_
    walk_at "r"
    have hrest : ∀ {nx bk ct : L2.St → Hp → Prop} {u : TS}, tSeq (tIfS (tTest (tOp (uNe c.K) (tOp (uIx c.K) (tVar 1) (tUn (rU fun i => .int (-i)) (tC (.int 1)))) (tC (.str ⟨#[41]⟩)))) (tRet (tLst tNil)) tNext) u ⟨nx, Q, bk, ct⟩ ((L2.start N_Reader_whole [V.ref a]).set 1 (some (.str (T (p.text ++ [n]))))) H := by
      intro nx bk ct u
      walk_at "r"
      refine l_ixX (by omega) (atI_last (v := n)) ?_
      walk_at "r"
      refine wT (by simp [h41]) ?_
      walk_at "r"
      refine n_lstF W (sz rfl) fun p F' H' s h' W' => ?_
      rw [hq] at k
      exact k p [] F' H' s h' .nil W'
    refine wD (fun z => ?_) (fun z => ?_)
    · have z1 : p.text.length = 1 := by rw [hl1] at z; omega
      walk_at "r"
      refine l_ixX (n := n) (i := 1) (by omega) (by show atI _ ((1 : Nat) : Int) = _; exact atI_nat (by rw [List.getElem?_append_right (by omega), z1]; rfl)) ?_
      walk_at "r"
      rw [isSmall_mem']
      refine wF (by simpa [z1] using h3) ?_
      with_reducible refine x_next ?_
      exact hrest
    · with_reducible refine wF rfl ?_
      with_reducible refine x_next ?_
      exact hrest
  · obtain ⟨w1, w2', w3, w4⟩ := id wf
    have hl3 : 3 ≤ (Pre.op g ps la).text.length := by simp [Pre.text]
    refine wF (decide_eq_false (fun e => by have := congrArg List.length e; simp [Pre.text] at this)) ?_
    walk_at "r"
    refine l_lenX (by omega) ?_
    walk_at "r"
    refine wF (decide_eq_false (by omega)) ?_
    walk_at "r"
    refine wF rfl ?_
    walk_at "r"
    refine l_ixX (by omega) (atI_last (v := 41)) ?_
    walk_at "r"
    refine wF rfl ?_
    walk_at "r"
    refine x_put0 W cl n1 fsReader_len fsReader_p0 fun H1 W1 => ?_
    walk_at "r"
    refine l_slX (by omega) ?_
    have e1 : cutL ((Pre.op g ps la).text ++ [41]) (some 3) (some (-1)) = TL.joinL [44] (ps ++ [la]) := by
      rw [joinL_parts]
      refine (cutL_last _ 3).trans ?_
      rw [hl1]
      show List.take _ (partsText ps ++ la ++ [41]) = _
      have : (Pre.op g ps la).text.length + 1 - 1 - 3 = (partsText ps ++ la).length := by simp [Pre.text]
      rw [this, List.take_left]
    rw [e1]
    walk_at "r"
    have hjl : (TL.joinL [44] (ps ++ [la])).length ≤ 100 := by
      rw [joinL_parts, List.length_append]
      have := parts_len w3
      have := w4.1
      omega
    refine l_ixX (n := g) (i := 1) (by omega) (by show atI _ ((1 : Nat) : Int) = _; exact atI_nat rfl) ?_
    walk_at "r"
    have hempty : TL.joinL [44] (ps ++ [la]) = [] ↔ ps = [] ∧ la = [] := by
      rw [joinL_parts]
      cases ps <;> simp [partsText]
    refine wN (fun hne => ?_) (fun he => ?_)
    · have hne2 : ¬ (ps = [] ∧ la = []) := fun z => hne (hempty.mpr z)
      rw [if_neg hne2] at k
      walk_at "r"
      refine l_split W1 (by decide) (by omega) (by simp) (fun q hq => ?_) fun r1 F1 H1 s1 h1 W1 => ?_
      · rcases List.mem_append.mp hq with hq | hq
        · exact fig_free (w3 q hq).2
        · rw [List.mem_singleton.mp hq]; exact fig_free w4
      have hparts : ∀ q ∈ ps ++ [la], q ≠ [] ∧ figsOk q := fun q hq => by
        rcases List.mem_append.mp hq with hq | hq
        · exact w3 q hq
        · rw [List.mem_singleton.mp hq]
          refine ⟨fun z => ?_, w4⟩
          rcases hla with h | h
          · exact h z
          · exact hne2 ⟨h, z⟩
      have hplen : (ps ++ [la]).length ≤ 4 := by rw [List.length_append]; simp; omega
      refine x_ilist' (sq_of (W1.old _ _ h1)) ?_
      refine x_lcOk (F := F1) (ItOk.list (sq_of h1)) W1 (by simp; omega) (fun i v _ => v = .int ((NumText.digitsVal ((ps ++ [la]).getD i []) : Nat) : Int)) (fun _ _ _ _ _ h => h) (fun d i F' H' QQ hi s W' kk => ?_) gm_name (fun D ys F' H' s hlen' hv W' => ?_)
      · have hi' : i < (ps ++ [la]).length := by simpa using hi
        have hg : ((ps ++ [la]).map fun p => V.str (T p)).getD i .non = .str (T ((ps ++ [la]).getD i [])) := by
          rw [List.getD_eq_getElem?_getD, List.getD_eq_getElem?_getD, List.getElem?_map, List.getElem?_eq_getElem hi']; rfl
        have hm : (ps ++ [la]).getD i [] ∈ ps ++ [la] := by
          rw [List.getD_eq_getElem?_getD, List.getElem?_eq_getElem hi']; exact List.getElem_mem hi'
        obtain ⟨o1, o2⟩ := hparts _ hm
        show (fun σ2 H2 => wipe σ2 [3] = _ ∧ _) (List.set _ 3 (some (((ps ++ [la]).map fun p => V.str (T p)).getD i .non))) H'
        rw [hg]
        refine ⟨wipe1, ?_⟩
        walk_at "r"
        refine l_intS (i := ((NumText.digitsVal ((ps ++ [la]).getD i []) : Nat) : Int)) ?_ ?_ (kk _ F' H' (Same.refl F') W' rfl)
        · have z := intText_digits (x := T ((ps ++ [la]).getD i [])) (by rw [T_list]; exact figs_all o2) (by rw [T_list]; exact o1) (by rw [T_len]; have := o2.1; omega)
          rw [T_list] at z; exact z
        · rw [T_len]; have := o2.1; omega
      · walk_at "r"
        have ey : ys = ((ps ++ [la]).map NumText.digitsVal).map fun (n : Nat) => V.int n := by
          refine List.ext_getElem? fun j => ?_
          by_cases hj : j < (ps ++ [la]).length
          · have a1 := hv j (by simpa using hj)
            have hjy : j < ys.length := by rw [hlen']; simpa using hj
            rw [List.getD_eq_getElem?_getD, List.getElem?_eq_getElem hjy] at a1
            rw [List.getElem?_eq_getElem hjy, List.getElem?_map, List.getElem?_map, List.getElem?_eq_getElem hj]
            rw [List.getD_eq_getElem?_getD, List.getElem?_eq_getElem hj] at a1
            exact congrArg some a1
          · rw [List.getElem?_eq_none (by rw [hlen']; simpa using hj), List.getElem?_eq_none (by simpa using hj)]
        refine n_tupleF W'.drop (sq_of W'.get0) fun r2 F2 H2 s2 h2 W2 => ?_
        walk_at "r"
        refine n_tupF W2 (sz rfl) fun p3 F3 H3 s3 h3 W3 => ?_
        refine n_lstF W3 (sz rfl) fun p4 F4 H4 s4 h4 W4 => ?_
        refine k p4 _ F4 H4 (((s1.trans s).trans s2).trans (s3.trans s4)) h4 (.cons (.tup (st_of (s4 _ _ h3)) (.cons (.str _) (.cons (.str _) (.cons (.tup (st_of (s4 _ _ (s3 _ _ h2))) ?_) .nil)))) .nil) W4
        rw [ey]
        exact dp_ints _
    · have he2 := hempty.mp he
      rw [if_pos he2] at k
      walk_at "r"
      refine n_tupF W1 (sz rfl) fun p0 F0 H0 s0 h0 W0 => ?_
      walk_at "r"
      refine n_tupF W0 (sz rfl) fun p1 F1 H1 s1 h1 W1 => ?_
      refine n_lstF W1 (sz rfl) fun p F' H' s h' W' => ?_
      exact k p _ F' H' ((s0.trans s1).trans s) h' (.cons (.tup (st_of (s _ _ h1)) (.cons (.str _) (.cons (.str _) (.cons (.tup (st_of ((s1.trans s) _ _ h0)) .nil) .nil)))) .nil) W'
theorem rd_Reader_read (R : FReader c) : RD N_Reader_read (t_Reader_read c) (sp_Reader_read c) := by
  obtain ⟨cl, n1, n2⟩ := R
  rintro vs H Q E ⟨a, dx, r, n, F, L, rfl, W, wf, k⟩
  have hlen := text_len wf
  unfold t_Reader_read
  walk_at "r"
  refine wD (fun h => ?_) (fun h => ?_)
  · have hp : r.pre = .no := text_no.mp h
    have e : r.read n = (⟨(plain n).1, r.lost⟩, (plain n).2) := by unfold Rdr.read; rw [if_pos hp]
    rw [e] at k
    walk_at "r"
    refine ⟨a, dx, _, _, n, F, L, rfl, W, fun r1 xs F' H' s h1 h2 W' => k r1 xs F' H' s h1 h2 ?_⟩
    have e2 : (if n = 94 then [94] else r.pre.text) = (plain n).1.text := by
      unfold plain
      by_cases h94 : n = 94
      · rw [if_pos h94, if_pos h94]; rfl
      · rw [if_neg h94, if_neg h94, hp]; split <;> rfl
    rw [e2] at W'
    exact W'
  · have hp : r.pre ≠ .no := fun z => h (text_no.mpr z)
    walk_at "r"
    refine ⟨a, dx, r.pre, _, n, F, L, rfl, W, wf, hp, fun F1 H1 s1 W1 => ?_⟩
    walk_at "r"
    cases hst : r.pre.step n with
    | some qt =>
      obtain ⟨q, ts⟩ := qt
      have e : r.read n = (⟨q, r.lost⟩, ts) := by unfold Rdr.read; rw [if_neg hp, hst]
      rw [e] at k
      refine wT rfl ?_
      walk_at "r"
      refine l_addX (by simp; omega) ?_
      walk_at "r"
      refine x_put0 W1 cl n1 fsReader_len fsReader_p0 fun H2 W2 => ?_
      walk_at "r"
      exact ⟨a, dx, r.pre, q, ts, _, n, F1, L, rfl, W2, wf, hst, fun r1 xs F' H' s h1 h2 W' => k r1 xs F' H' (s1.trans s) h1 h2 W'⟩
    | none =>
      have e : r.read n = (⟨(plain n).1, r.lost + r.pre.text.length⟩, (plain n).2) := by unfold Rdr.read; rw [if_neg hp, hst]
      rw [e] at k
      refine wF rfl ?_
      walk_at "r"
      refine l_lenX (by omega) ?_
      walk_at "r"
      refine x_put0 W1 cl n2 fsReader_len fsReader_p1 fun H2 W2 => ?_
      walk_at "r"
      refine x_put0 W2 cl n1 fsReader_len fsReader_p0 fun H3 W3 => ?_
      walk_at "r"
      refine ⟨a, dx, [], _, n, F1, L, rfl, W3, fun r1 xs F' H' s h1 h2 W' => k r1 xs F' H' (s1.trans s) h1 h2 ?_⟩
      have e2 : (if n = 94 then [94] else ([] : List Nat)) = (plain n).1.text := by
        unfold plain
        by_cases h94 : n = 94
        · rw [if_pos h94, if_pos h94]; rfl
        · rw [if_neg h94, if_neg h94]; split <;> rfl
      rw [e2] at W'
      exact W'
theorem okText_T (l : List Nat) : okText (.str (T l)) = (decide (l.length ≤ 4000) && l.all isSign) := by
  show (decide ((T l).length ≤ 4000) && (T l).cps.toList.all isSign) = _
  rw [T_len, T_list]
theorem ty_str {K : PySem.W.Frag} {H : Hp} (z : Str) : TyX K H (.str z) (.type "str") := .base (.str z)
theorem rd_need_text : RD N_need_text (t_need_text c) (sp_need_text c) := by
  rintro vs H Q E ⟨x, F, L, rfl, ta, W, k1, k2⟩
  unfold t_need_text
  walk_at "r"
  rcases ta with ⟨l, rfl, hl⟩ | ⟨⟨t, ht, hk⟩, hx⟩
  · refine l_isTy (ty_str _) (by decide +kernel : kitB "str" "str" = some true) ?_
    walk_at "r"
    refine wF rfl ?_
    walk_at "r"
    refine l_lenX hl ?_
    walk_at "r"
    rw [okText_T] at k1 k2
    refine wD (fun h => ?_) (fun h => ?_)
    · have hn : ¬ l.length ≤ 4000 := by omega
      refine wT rfl ?_
      walk_at "r"
      exact k2 (by rw [decide_eq_false hn]; rfl) F H (Same.refl F) W
    · have hn : l.length ≤ 4000 := by omega
      rw [decide_eq_true hn, Bool.true_and] at k1 k2
      walk_at "r"
      refine x_lcOk (F := F) (ItOk.str l) W (by omega) (fun i v _ => v = .bl (isSign (l.getD i 0))) (fun _ _ _ _ _ h => h) (fun d i F' H' QQ hi s W' kk => ?_) gm_name (fun D ys F' H' s hlen' hv W' => ?_)
      · refine ⟨wipe1, ?_⟩
        walk_at "r"
        exact ⟨_, rfl, kk _ F' H' (Same.refl F') W' rfl⟩
      · walk_at "r"
        have ey : ys = (l.map isSign).map V.bl := by
          refine List.ext_getElem? fun j => ?_
          by_cases hj : j < l.length
          · have a1 := hv j hj
            have hjy : j < ys.length := by rw [hlen']; exact hj
            rw [List.getD_eq_getElem?_getD, List.getElem?_eq_getElem hjy, List.getD_eq_getElem?_getD, List.getElem?_eq_getElem hj] at a1
            rw [List.getElem?_eq_getElem hjy, List.getElem?_map, List.getElem?_map, List.getElem?_eq_getElem hj]
            exact congrArg some a1
          · rw [List.getElem?_eq_none (by omega), List.getElem?_eq_none (by simpa using hj)]
        rw [ey] at W'
        refine ⟨D, l.map isSign, rfl, sq_of W'.get0, ?_⟩
        walk_at "r"
        have e : (l.map isSign).all id = l.all isSign := by rw [List.all_map]; rfl
        rw [e]
        cases hall : l.all isSign with
        | true =>
          refine wF rfl ?_
          walk_at "r"
          exact k1 hall F' H' s W'.drop
        | false =>
          refine wT rfl ?_
          walk_at "r"
          exact k2 hall F' H' s W'.drop
  · refine l_isTy (tyX_gr W.gr ht) hk ?_
    walk_at "r"
    refine wT rfl ?_
    refine wT rfl ?_
    walk_at "r"
    refine k2 ?_ F H (Same.refl F) W
    cases x with
    | str z => exact absurd rfl (hx z)
    | _ => rfl
theorem TextArg.gr {c : Ctx} {F F' : Hp} {x : V} (g : Gr F F') (h : TextArg c F x) : TextArg c F' x := by
  rcases h with h | ⟨⟨t, ht, hk⟩, hx⟩
  · exact .inl h
  · exact .inr ⟨⟨t, tyX_gr g ht, hk⟩, hx⟩
theorem okText_str {x : V} (h : okText x = true) : ∃ l, x = .str (T l) ∧ l.length ≤ 4000 := by
  cases x with
  | str z =>
    refine ⟨z.cps.toList, by rw [← Str_T], ?_⟩
    unfold okText at h
    simp only [Bool.and_eq_true, decide_eq_true_eq] at h
    have := h.1
    rw [Str_T z, T_len] at this
    exact this
  | _ => cases h
theorem rd_Reader_feed (R : FReader c) : RD N_Reader_feed (t_Reader_feed c) (sp_Reader_feed c) := by
  obtain ⟨cl, n1, n2⟩ := R
  rintro vs H Q E ⟨a, dx, r, x, F, L, rfl, ta, W, wf, k1, k2⟩
  unfold t_Reader_feed
  walk_at "r"
  refine ⟨x, F, _, rfl, ta, W, fun hok F1 H1 s1 W1 => ?_, fun hno F1 H1 s1 W1 => k2 hno F1 H1 s1 W1⟩
  obtain ⟨l, rfl, hl⟩ := okText_str hok
  walk_at "r"
  refine n_lstL W1 (sz rfl) fun p H2 W2 => ?_
  walk_at "r"
  refine x_forOk (F := F1) (ItOk.str l) (fun i σ H' => (∃ sg, σ = [some (.ref a), some (.str (T l)), some (.ref p), sg]) ∧ ∃ F' xs, Same F1 F' ∧ DpAll c.K F' xs ((r.feed (l.take i)).2.map Tk.data) ∧ Hold F' ((p, .lst xs) :: (a, rdO c dx (r.feed (l.take i)).1) :: L) H')
    (fun i σ H' _ ⟨_, F', xs, s, _, W'⟩ => (Gr.of s).trans W'.gr) ⟨⟨none, rfl⟩, F1, [], Same.refl F1, .nil, W2⟩ ?_ ?_
  · rintro i σ H' hi ⟨⟨sg, rfl⟩, F', xs, s, hxs, W'⟩
    walk_at "r"
    have hlx : (r.feed (l.take i)).2.length ≤ i := feed_len r i l
    have hxl := dpAll_len hxs
    rw [List.length_map] at hxl
    refine x_tylst (sq_of W'.get0) ?_
    have W3 : Hold F' ((a, rdO c dx (r.feed (l.take i)).1) :: (p, .lst xs) :: L) H' := W'.perm (List.Perm.swap _ _ _)
    walk_at "r"
    refine ⟨a, dx, _, _, F', _, rfl, W3, feed_wf wf, fun r1 zs F4 H4 s4 h4 hz W4 => ?_⟩
    walk_at "r"
    have W5 : Hold F4 ((p, .lst xs) :: (a, rdO c dx ((r.feed (l.take i)).1.read (l.getD i 0)).1) :: L) H4 := W4.perm (List.Perm.swap _ _ _)
    have hzl := dpAll_len hz
    rw [List.length_map] at hzl
    have hz2 := read_len (r.feed (l.take i)).1 (l.getD i 0)
    refine ⟨p, r1, xs, zs, rfl, rfl, W5.get0, W4.old _ _ h4, szl (by omega), ?_⟩
    have et : l.take (i + 1) = l.take i ++ [l.getD i 0] := by
      rw [List.take_succ, List.getD_eq_getElem?_getD, List.getElem?_eq_getElem hi]; rfl
    have ef : r.feed (l.take (i + 1)) = (((r.feed (l.take i)).1.read (l.getD i 0)).1, (r.feed (l.take i)).2 ++ ((r.feed (l.take i)).1.read (l.getD i 0)).2) := by
      rw [et, feed_app]; simp [Rdr.feed]
    refine ⟨⟨_, rfl⟩, F4, xs ++ zs, s.trans s4, ?_, ?_⟩
    · rw [ef, List.map_append]
      exact dpAll_app ((Gr.of s4).dpAll hxs) hz
    · rw [ef]
      exact W5.put0
  · rintro σ H' ⟨⟨sg, rfl⟩, F', xs, s, hxs, W'⟩
    walk_at "r"
    rw [List.take_length] at hxs W'
    exact k1 l rfl hok p xs F' H' (s1.trans s) hxs W'
theorem rd_told : RD N_told (t_told c) (sp_told c) := by
  rintro vs H Q E ⟨x, F, L, rfl, ta, W, k1, k2⟩
  unfold t_told
  walk_at "r"
  refine x_an W fun a dx H1 W1 => ?_
  refine ⟨a, dx, F, L, rfl, W1, fun H2 W2 => ⟨rfl, ?_⟩⟩
  walk_at "r"
  refine ⟨a, dx, Rdr.new, x, F, L, rfl, ta, W2, trivial, fun l hx hok p xs F' H' s hxs W' => ?_, fun hno F' H' s W' => k2 hno F' H' s W'.drop⟩
  exact k1 l hx hok p xs F' H' s hxs (W'.sub (List.Sublist.cons₂ _ (List.sublist_cons_self _ _)))
end
end Ss
/-! ## The laws' own draws -/
namespace Ss
open PySem PySem.Spec PyProof.Rows L2
open Ss in
local macro_rules | `(tactic| walk_at "fg") => `(tactic| first | with_reducible exact fsReader_g0 | with_reducible exact fsReader_g1)
open Ss in
local macro_rules | `(tactic| walk_at "r") => `(tactic| repeat (first
  | with_reducible refine x_seq ?_ | with_reducible refine x_asg ?_ | with_reducible refine x_var rfl ?_ | with_reducible refine x_c ?_ | with_reducible refine x_op ?_ | with_reducible refine x_name ?_ | with_reducible refine x_gcons ?_ | with_reducible refine x_gnil ?_
  | with_reducible refine x_cons ?_ | with_reducible refine x_nil ?_ | with_reducible refine x_cb ?_ | with_reducible refine x_ifs ?_ | with_reducible refine x_test ?_ | with_reducible refine x_bl ?_
  | with_reducible refine g_addNN ?_ | with_reducible refine g_addNL ?_ | with_reducible refine g_addLN ?_ | with_reducible refine l_addI ?_ | with_reducible refine l_subI ?_ | with_reducible refine g_ltNL ?_ | with_reducible refine l_ltI ?_ | with_reducible refine l_leI ?_ | with_reducible refine l_gtI ?_ | with_reducible refine l_geI ?_ | with_reducible refine l_eqX ?_ | with_reducible refine l_neX ?_ | with_reducible refine g_eqNL ?_ | with_reducible refine l_eqII ?_ | with_reducible refine l_neII ?_ | with_reducible refine l_eq rfl ?_ | with_reducible refine l_ne rfl ?_
  | with_reducible refine x_fld ?_ | with_reducible refine x_ret ?_ | with_reducible refine x_drop ?_ | with_reducible refine x_next ?_ | with_reducible refine x_tup ?_ | with_reducible refine x_lst ?_ | with_reducible refine x_f ?_ | with_reducible refine x_o ?_ | with_reducible refine x_n ?_
  | with_reducible refine x_bm ?_ | with_reducible refine x_bm0 ?_ | with_reducible refine x_m1 ?_ | with_reducible refine x_m0 ?_ | with_reducible refine x_isstr ?_ | with_reducible refine x_tystr ?_ | with_reducible refine x_sl ?_ | with_reducible refine x_part ?_ | with_reducible refine x_part' ?_ | with_reducible refine x_nopart ?_
  | with_reducible refine x_sfld ?_ | with_reducible refine x_if ?_ | with_reducible refine x_isty ?_ | with_reducible refine x_chain ?_ | with_reducible refine x_andV ?_ | with_reducible refine x_orV ?_ | with_reducible refine x_notV ?_ | with_reducible refine x_B ?_ | with_reducible refine x_and ?_ | with_reducible refine x_or ?_ | with_reducible refine x_not ?_ | with_reducible refine x_tru ?_ | with_reducible refine x_yes ?_
  | with_reducible refine x_un ?_ | with_reducible refine x_neg ?_ | with_reducible refine x_par ?_ | with_reducible refine x_par' ?_ | with_reducible refine x_retN ?_ | with_reducible refine x_brk ?_ | with_reducible refine x_cont ?_ | with_reducible refine x_rz ?_
  | with_reducible refine l_leS ?_ | with_reducible refine l_ltS ?_ | with_reducible refine l_inX ?_ | with_reducible refine l_niX ?_ | with_reducible refine l_inS ?_ | with_reducible refine l_niS ?_ | with_reducible refine l_count ?_ | with_reducible refine l_ord ?_ | with_reducible refine l_max ?_ | with_reducible refine l_min ?_ | with_reducible refine l_intI ?_ | with_reducible refine l_intB ?_ | with_reducible refine l_is ?_ | with_reducible refine l_isn ?_
  | with_reducible refine g_modNL (by decide) ?_ | with_reducible refine g_divNL (by decide) (by decide) ?_ | with_reducible refine l_modI (by decide) ?_ | with_reducible refine x_for ?_ | with_reducible refine x_lc ?_ | with_reducible refine x_ilist ?_ | with_reducible refine x_itup ?_ | with_reducible refine x_istr ?_ | with_reducible refine x_istr' ?_ | with_reducible refine x_irng1 ?_ | with_reducible refine x_irng2 ?_
  | (with_reducible refine x_get (by first | assumption | exact Hold.get0 (by assumption) | exact Hold.get1 (by assumption)) (by assumption) (by assumption) (by walk_at "fg") ?_)
  | (with_reducible refine x_ao (by first | assumption | exact Hold.get0 (by assumption) | exact Hold.get1 (by assumption)) (by kernel_rfl) ?_)
  | with_reducible refine x_ienum ?_ | with_reducible refine x_izip ?_ | with_reducible refine x_chain3 ?_
  | (with_reducible refine x_par2 ?_)
  | (with_reducible refine x_par3 ?_) | (with_reducible refine x_par3' ?_)))
/-- a great number by a cell and a place -/
def drawnI (x : Int) (k : Nat) : Nat :=
  let a := ((x * 6364136223846793005 + ((k : Int) + 1) * 1442695040888963407) % 340282366920938463463374607431768211507).toNat
  let b := a * a % 340282366920938463463374607431768211297
  (b % 18446744073709551557 + 1) * (b / 18446744073709551557 + 1) * b % 340282366920938463463374607431768211507
theorem drawn_is : ∃ f : Int → Nat → Nat, ∀ x k, f x k = drawnI x k := ⟨drawnI, fun _ _ => rfl⟩
/-- the same, never to be reckoned (generalize is no help there: its letters are gone when the kernel looks) -/
noncomputable def drawn : Int → Nat → Nat := Classical.choose drawn_is
theorem drawn_eq (x : Int) (k : Nat) : drawn x k = drawnI x k := Classical.choose_spec drawn_is x k
theorem drawn_lt (x : Int) (k : Nat) : drawn x k < 340282366920938463463374607431768211507 := by rw [drawn_eq]; exact Nat.mod_lt _ (by decide)
theorem drawn_small (x : Int) (k : Nat) : drawn x k < 2 ^ 129 := Nat.lt_trans (drawn_lt x k) (by decide)
def cellOf (ns : List Int) (k : Nat) : Int := if ns = [] then (k : Int) * 7919 else ns.getD (k % ns.length) 0 + ((k / ns.length : Nat) : Int) * 104729
def sp__law_cell (c : Ctx) : Sp := fun vs H Q _ => ∃ a ns k F L, vs = [.ref a, .int ((k : Nat) : Int)] ∧ k ≤ 1000 ∧ SqL c.K F a (ns.map V.int) ∧ ns.length ≤ 63 ∧ Hold F L H ∧ ∀ F' H', Same F F' → Hold F' L H' → Q (.int (cellOf ns k)) H'
/-- a bound of what is drawn from -/
@[irreducible] def bigB : Nat := 2 ^ 1048580
theorem bigB_eq : bigB = 2 ^ 1048580 := by unfold bigB; rfl
theorem big_of {n k : Nat} (h : n < 2 ^ k) (hk : k ≤ 1048580) : n < bigB := by
  rw [bigB_eq]
  exact Nat.lt_of_lt_of_le h (Nat.pow_le_pow_right (by decide) hk)
theorem big_nat {n k : Nat} (h : n < 2 ^ k) (hk : k ≤ 1048580) : ((n : Nat) : Int).natAbs < bigB := by rw [Int.natAbs_natCast]; exact big_of h hk
def sp__law_drawn (_ : Ctx) : Sp := fun vs H Q _ => ∃ x k, vs = [.int x, .int ((k : Nat) : Int)] ∧ x.natAbs < bigB ∧ k < 2 ^ 64 ∧ Q (.int ((drawn x k : Nat) : Int)) H
def oneSigns : List Nat := [97, 98, 99, 100, 101, 88, 89, 32, 94, 40, 44, 41, 49, 57, 126]
def oneSmall : List Nat := [117, 100, 108, 114, 104, 110, 112, 101, 98, 107, 99, 115, 116, 122, 113, 120]
def oneGreat : List Nat := [71, 82, 67, 66, 77, 88, 73, 68, 78, 74, 90, 71]
def oneNums : List Nat := [0, 1, 2, 3, 4, 7, 12, 9999]
def oneMany (h w : Nat) : Nat := if h / 16 % 8 = 0 then h / 128 % 5 else if w = 71 ∨ w = 82 then 2 else 1
noncomputable def lawOne (m : Nat) : Tk :=
  if m % 16 < 8 then .sign (oneSigns.getD (m / 64 % 15) 0)
  else if m % 16 = 8 then .fin
  else if m % 16 < 13 then .act (oneSmall.getD (m / 64 % 16) 0) []
  else .act (oneGreat.getD (m / 64 % 12) 0) ((List.range (oneMany (m / 64) (oneGreat.getD (m / 64 % 12) 0))).map fun j => oneNums.getD (drawn ((m / 64 : Nat) : Int) j % 8) 0)
def sp__law_one (c : Ctx) : Sp := fun vs H Q _ => ∃ m F L, vs = [.int ((m : Nat) : Int)] ∧ m < 2 ^ 200 ∧ Hold F L H ∧ ∀ v F' H', Same F F' → Dp c.K F' v (lawOne m).data → Hold F' L H' → Q v H'
def runSigns : List Nat := [109, 110, 111, 112]
noncomputable def lawStep (m j : Nat) : List Tk := (if drawn m j % 5 = 0 then (List.range (drawn m j / 64 % 15)).map fun n => .sign (runSigns.getD ((drawn m j / 8 + n) % 4) 0) else []) ++ [lawOne (drawn m j / 8)]
noncomputable def lawRow (m many : Nat) : List Tk := (List.range (m % (many + 1))).flatMap (lawStep m)
def sp__law_row (c : Ctx) : Sp := fun vs H Q _ => ∃ m many F L, vs = [.int ((m : Nat) : Int), .int ((many : Nat) : Int)] ∧ m < 2 ^ 200 ∧ many ≤ 50 ∧ Hold F L H ∧
  ∀ (r : Addr) xs F' H', Same F F' → DpAll c.K F' xs ((lawRow m many).map Tk.data) → Hold F' ((r, .lst xs) :: L) H' → Q (.ref r) H'
/-- what tells a thing -/
def Tk.text : Tk → List Nat
  | .sign n => if n = 94 then [94, 94] else [n]
  | .fin => [10]
  | .act w ns => if isSmall w then [94, w] else [94, w, 40] ++ (TL.joinL [44] (ns.map TL.numL) ++ [41])
def lawText (ts : List Tk) : List Nat := ts.flatMap Tk.text
/-- small things -/
def Tk.Few : Tk → Prop
  | .sign _ => True
  | .fin => True
  | .act _ ns => ns.length ≤ 4 ∧ ∀ n ∈ ns, n ≤ 9999
def sp__law_text (c : Ctx) : Sp := fun vs H Q _ => ∃ a xs ts F L, vs = [.ref a] ∧ SqL c.K F a xs ∧ DpAll c.K F xs (List.map Tk.data ts) ∧ (∀ t ∈ ts, t.Few) ∧ ts.length ≤ 10000 ∧ Hold F L H ∧ ∀ F' H', Same F F' → Hold F' L H' → Q (.str (T (lawText ts))) H'
def t__law_cell (c : Ctx) (E : XK) : TS :=
  (tSeq (tIfS (tTest (tOp (uEq c.K) (tVar 0) (tLst tNil))) (tRet (tOp (uMul c.K) (tVar 1) (tC (.int 7919)))) tNext)
  (tRet (tOp (uAdd c.K) (tOp (uIx c.K) (tVar 0) (tOp uMod (tVar 1) (tCB (uLen c.K) (tCons (tVar 0) tNil)))) (tOp (uMul c.K) (tOp uDiv (tVar 1) (tCB (uLen c.K) (tCons (tVar 0) tNil))) (tC (.int 104729))))))
abbrev N__law_cell : List Str := ["_law_script", "_law_k"]

def t__law_drawn (c : Ctx) (E : XK) : TS :=
  (tSeq (tAsg (tOp uMod (tOp (uAdd c.K) (tOp (uMul c.K) (tVar 0) (tC (.int 6364136223846793005))) (tOp (uMul c.K) (tOp (uAdd c.K) (tVar 1) (tC (.int 1))) (tC (.int 1442695040888963407)))) (tC (.int 340282366920938463463374607431768211507))) (gName 2))
  (tSeq (tAsg (tOp uMod (tOp (uMul c.K) (tVar 2) (tVar 2)) (tC (.int 340282366920938463463374607431768211297))) (gName 2))
  (tSeq (tAsg (tOp (uMul c.K) (tOp (uMul c.K) (tOp (uAdd c.K) (tOp uMod (tVar 2) (tC (.int 18446744073709551557))) (tC (.int 1))) (tOp (uAdd c.K) (tOp uDiv (tVar 2) (tC (.int 18446744073709551557))) (tC (.int 1)))) (tVar 2)) (gName 2))
  (tRet (tOp uMod (tVar 2) (tC (.int 340282366920938463463374607431768211507)))))))
abbrev N__law_drawn : List Str := ["_law_cell_here", "_law_k", "_law_more"]

def t__law_one (c : Ctx) (E : XK) : TS :=
  (tSeq (tAsg (tOp uDiv (tVar 0) (tC (.int 64))) (gName 1))
  (tSeq (tAsg (tOp uMod (tVar 0) (tC (.int 16))) (gName 2))
  (tSeq (tIfS (tTest (tOp uLt (tVar 2) (tC (.int 8)))) (tRet (tTup (tCons (tC (.str ⟨#[115, 105, 103, 110]⟩)) (tCons (tOp (uIx c.K) (tC (.str ⟨#[97, 98, 99, 100, 101, 88, 89, 32, 94, 40, 44, 41, 49, 57, 126]⟩)) (tOp uMod (tVar 1) (tC (.int 15)))) tNil)))) tNext)
  (tSeq (tIfS (tTest (tOp (uEq c.K) (tVar 2) (tC (.int 8)))) (tRet (tTup (tCons (tC (.str ⟨#[101, 110, 100]⟩)) tNil))) tNext)
  (tSeq (tIfS (tTest (tOp uLt (tVar 2) (tC (.int 13)))) (tRet (tTup (tCons (tC (.str ⟨#[100, 111]⟩)) (tCons (tOp (uIx c.K) (tC (.str ⟨#[117, 100, 108, 114, 104, 110, 112, 101, 98, 107, 99, 115, 116, 122, 113, 120]⟩)) (tOp uMod (tVar 1) (tC (.int 16)))) (tCons (tTup tNil) tNil))))) tNext)
  (tSeq (tAsg (tOp (uIx c.K) (tC (.str ⟨#[71, 82, 67, 66, 77, 88, 73, 68, 78, 74, 90, 71]⟩)) (tOp uMod (tVar 1) (tC (.int 12)))) (gName 3))
  (tSeq (tAsg (tDGet2 (tDisp [((tC (.str ⟨#[71]⟩)), (tC (.int 2))), ((tC (.str ⟨#[82]⟩)), (tC (.int 2)))]) (tVar 3) (tC (.int 1))) (gName 4))
  (C8.tCut (tIfS (tTest (tOp (uEq c.K) (tOp uMod (tOp uDiv (tVar 1) (tC (.int 16))) (tC (.int 8))) (tC (.int 0)))) (tAsg (tOp uMod (tOp uDiv (tVar 1) (tC (.int 128))) (tC (.int 5))) (gName 4)) tNext) (tSeq (tAsg (tLc (iRng1 (tCons (tVar 4) tNil)) (gName 6) tYes (tOp (uIx c.K) (tLst (tCons (tC (.int 0)) (tCons (tC (.int 1)) (tCons (tC (.int 2)) (tCons (tC (.int 3)) (tCons (tC (.int 4)) (tCons (tC (.int 7)) (tCons (tC (.int 12)) (tCons (tC (.int 9999)) tNil))))))))) (tOp uMod (tF (sp__law_drawn c) E0 (tCons (tVar 1) (tCons (tVar 6) tNil))) (tC (.int 8)))) [6]) (gName 5))
  (tRet (tTup (tCons (tC (.str ⟨#[100, 111]⟩)) (tCons (tVar 3) (tCons (tCB (uTuple c.K) (tCons (tVar 5) tNil)) tNil))))))))))))))
abbrev N__law_one : List Str := ["_law_more", "_law_here", "_law_way", "_law_word_here", "_law_many", "_law_numbers", "_law_j"]

def t__law_row (c : Ctx) (E : XK) : TS :=
  (tSeq (tAsg (tLst tNil) (gName 2))
  (tSeq (tFor (iRng1 (tCons (tOp uMod (tVar 0) (tOp (uAdd c.K) (tVar 1) (tC (.int 1)))) tNil)) (gName 3) (tSeq (tAsg (tF (sp__law_drawn c) E0 (tCons (tVar 0) (tCons (tVar 3) tNil))) (gName 4))
  (C8.tCut (tIfS (tTest (tOp (uEq c.K) (tOp uMod (tVar 4) (tC (.int 5))) (tC (.int 0)))) (tAsg (tOp (uAdd c.K) (tVar 2) (tLc (iRng1 (tCons (tOp uMod (tOp uDiv (tVar 4) (tC (.int 64))) (tC (.int 15))) tNil)) (gName 5) tYes (tTup (tCons (tC (.str ⟨#[115, 105, 103, 110]⟩)) (tCons (tOp (uIx c.K) (tC (.str ⟨#[109, 110, 111, 112]⟩)) (tOp uMod (tOp (uAdd c.K) (tOp uDiv (tVar 4) (tC (.int 8))) (tVar 5)) (tC (.int 4)))) tNil))) [5])) (gName 2)) tNext) (tDrop (tBM c.K "list" rAppend (tVar 2) (tCons (tF (sp__law_one c) E0 (tCons (tOp uDiv (tVar 4) (tC (.int 8))) tNil)) tNil))))))
  (tRet (tVar 2))))
abbrev N__law_row : List Str := ["_law_more", "_law_many", "_law_found", "_law_j", "_law_here", "_law_n"]

def t__law_text (c : Ctx) (E : XK) : TS :=
  (tSeq (tAsg (tLst tNil) (gName 1))
  (tSeq (tFor (iList c.K (tVar 0)) (gName 2) (tIfS (tTest (tOp (uEq c.K) (tOp (uIx c.K) (tVar 2) (tC (.int 0))) (tC (.str ⟨#[115, 105, 103, 110]⟩)))) (tDrop (tBM c.K "list" rAppend (tVar 1) (tCons (CwR.tReplC (tOp (uIx c.K) (tVar 2) (tC (.int 1))) ⟨#[94]⟩ ⟨#[94, 94]⟩) tNil))) (tIfS (tTest (tOp (uEq c.K) (tOp (uIx c.K) (tVar 2) (tC (.int 0))) (tC (.str ⟨#[101, 110, 100]⟩)))) (tDrop (tBM c.K "list" rAppend (tVar 1) (tCons (tC (.str ⟨#[10]⟩)) tNil))) (tIfS (tTest (tOp (uIn c.K) (tOp (uIx c.K) (tVar 2) (tC (.int 1))) (tC (.str ⟨#[97, 98, 99, 100, 101, 102, 103, 104, 105, 106, 107, 108, 109, 110, 111, 112, 113, 114, 115, 116, 117, 118, 119, 120, 121, 122]⟩)))) (tDrop (tBM c.K "list" rAppend (tVar 1) (tCons (tOp (uAdd c.K) (tC (.str ⟨#[94]⟩)) (tOp (uIx c.K) (tVar 2) (tC (.int 1)))) tNil))) (tDrop (tBM c.K "list" rAppend (tVar 1) (tCons (tOp (uAdd c.K) (tOp (uAdd c.K) (tOp (uAdd c.K) (tOp (uAdd c.K) (tC (.str ⟨#[94]⟩)) (tOp (uIx c.K) (tVar 2) (tC (.int 1)))) (tC (.str ⟨#[40]⟩))) (tM1 (u_join c.K) (tC (.str ⟨#[44]⟩)) (tLc (iTup c.K (tOp (uIx c.K) (tVar 2) (tC (.int 2)))) (gName 3) tYes (tCB uStr (tCons (tVar 3) tNil)) [3]))) (tC (.str ⟨#[41]⟩))) tNil)))))))
  (tRet (tM1 (u_join c.K) (tC (.str ⟨#[]⟩)) (tVar 1)))))
abbrev N__law_text : List Str := ["_law_row_here", "_law_found", "_law_one_here", "_law_n"]

section
variable {c : Ctx}
theorem rd__law_cell : RD N__law_cell (t__law_cell c) (sp__law_cell c) := by
  rintro vs H Q E ⟨a, ns, k, F, L, rfl, hk, hs, hl, W, kk⟩
  unfold t__law_cell
  walk_at "r"
  refine n_lstF W (sz rfl) fun p F1 H1 s1 h1 W1 => ?_
  refine l_eqD (.lst (W1.gr.sqL ((Gr.of s1).sqL hs)) (dpAll_ints ns)) (.lst (sq_of (W1.old _ _ h1)) .nil) ((Sh.ints ns (k := 0)).shaped (by decide)) ((Sh.lst (k := 0) (by simp)).shaped (by decide)) ?_
  walk_at "r"
  cases ns with
  | nil =>
    refine wT rfl ?_
    walk_at "r"
    refine l_mulI (mulx_ok (a := 20) (b := 20) (by omega) (by decide) (by decide)) ?_
    exact kk F1 H1 s1 W1
  | cons n ns =>
    refine wF rfl ?_
    walk_at "r"
    refine l_lenL (W1.gr.sqL ((Gr.of s1).sqL hs)) ?_
    walk_at "r"
    refine g_modNN (by simp) ?_
    have hlt : k % ((n :: ns).map V.int).length < ((n :: ns).map V.int).length := Nat.mod_lt _ (by simp)
    refine g_ixL (W1.gr.sqL ((Gr.of s1).sqL hs)) hlt ?_
    walk_at "r"
    refine l_lenL (W1.gr.sqL ((Gr.of s1).sqL hs)) ?_
    walk_at "r"
    refine g_divNN (by simp) (by simp at hl ⊢; omega) ?_
    walk_at "r"
    have hkd : k / ((n :: ns).map V.int).length ≤ k := Nat.div_le_self _ _
    refine l_mulI (mulx_ok (a := 20) (b := 20) (by rw [Int.natAbs_natCast]; exact Nat.lt_of_le_of_lt (Nat.div_le_self _ _) (by omega)) (by decide) (by decide)) ?_
    have e : ((n :: ns).map V.int).getD (k % ((n :: ns).map V.int).length) .non = .int ((n :: ns).getD (k % (n :: ns).length) 0) := by
      rw [List.length_map, List.getD_eq_getElem?_getD, List.getD_eq_getElem?_getD, List.getElem?_map, List.getElem?_eq_getElem (by rw [← List.length_map (f := V.int)]; exact hlt)]
      rfl
    rw [e, List.length_map]
    walk_at "r"
    exact kk F1 H1 s1 W1
theorem rd__law_drawn : RD N__law_drawn (t__law_drawn c) (sp__law_drawn c) := by
  rintro vs H Q E ⟨x, k, rfl, hx, hk, kk⟩
  unfold t__law_drawn
  walk_at "r"
  rw [bigB_eq] at hx
  refine l_mulI (mulx_ok (a := 1048580) (b := 64) hx (by decide) (by decide)) ?_
  walk_at "r"
  refine l_mulI (mulx_ok (a := 65) (b := 64) (by omega) (by decide) (by decide)) ?_
  walk_at "r"
  have ek : ((k + 1 : Nat) : Int) = (k : Int) + 1 := by omega
  rw [ek]
  generalize hX : x * 6364136223846793005 + ((k : Int) + 1) * 1442695040888963407 = X
  have ea : X % 340282366920938463463374607431768211507 = (((X % 340282366920938463463374607431768211507).toNat : Nat) : Int) := (Int.toNat_of_nonneg (Int.emod_nonneg _ (by decide))).symm
  have ha : (X % 340282366920938463463374607431768211507).toNat < 340282366920938463463374607431768211507 := by
    have := Int.emod_lt_of_pos X (b := 340282366920938463463374607431768211507) (by decide)
    omega
  rw [ea]
  rw [drawn_eq] at kk
  unfold drawnI at kk
  rw [hX] at kk
  generalize (X % 340282366920938463463374607431768211507).toNat = a at ha kk
  refine g_mulNN (by omega) (by omega) ?_
  walk_at "r"
  have hb : a * a % 340282366920938463463374607431768211297 < 340282366920938463463374607431768211297 := Nat.mod_lt _ (by decide)
  dsimp only at kk
  generalize a * a % 340282366920938463463374607431768211297 = b at hb kk
  have hb1 : b % 18446744073709551557 + 1 < 2 ^ 65 := by omega
  have hb2 : b / 18446744073709551557 + 1 < 2 ^ 65 := by omega
  refine g_mulNN (by omega) (by omega) ?_
  walk_at "r"
  refine g_mulNN ?_ (by omega) ?_
  · exact Nat.lt_trans (Nat.mul_lt_mul'' hb1 hb2) (by decide)
  walk_at "r"
  exact kk
theorem rd__law_one : RD N__law_one (t__law_one c) (sp__law_one c) := by
  rintro vs H Q E ⟨m, F, L, rfl, hm, W, kk⟩
  unfold t__law_one
  walk_at "r"
  unfold lawOne at kk
  refine wD (fun h => ?_) (fun h => ?_)
  · rw [if_pos h] at kk
    walk_at "r"
    refine g_ixX (by decide) (Nat.mod_lt _ (by decide)) ?_
    walk_at "r"
    refine n_tupF W (sz rfl) fun p F' H' s h' W' => ?_
    exact kk _ F' H' s (.tup (st_of h') (.cons (.str _) (.cons (.str _) .nil))) W'
  · rw [if_neg h] at kk
    walk_at "r"
    refine wD (fun h1 => ?_) (fun h1 => ?_)
    · rw [if_pos h1] at kk
      walk_at "r"
      refine n_tupF W (sz rfl) fun p F' H' s h' W' => ?_
      exact kk _ F' H' s (.tup (st_of h') (.cons (.str _) .nil)) W'
    · rw [if_neg h1] at kk
      walk_at "r"
      refine wD (fun h2 => ?_) (fun h2 => ?_)
      · rw [if_pos h2] at kk
        walk_at "r"
        refine g_ixX (by decide) (Nat.mod_lt _ (by decide)) ?_
        walk_at "r"
        refine n_tupF W (sz rfl) fun p0 F0 H0 s0 h0 W0 => ?_
        walk_at "r"
        refine n_tupF W0 (sz rfl) fun p F' H' s h' W' => ?_
        exact kk _ F' H' (s0.trans s) (.tup (st_of h') (.cons (.str _) (.cons (.str _) (.cons (.tup (st_of (s _ _ h0)) .nil) .nil)))) W'
      · rw [if_neg h2] at kk
        walk_at "r"
        refine g_ixX (by decide) (Nat.mod_lt _ (by decide)) ?_
        walk_at "r"
        refine x_dget2 (n_dispC [(Sum.inr (T [71]), .int 2), (Sum.inr (T [82]), .int 2)] W rfl (by decide) fun pd H1 W1 => ?_)
        refine x_isd W1.get0 ?_
        walk_at "r"
        refine x_dgetS W1.get0 ?_
        have hw : ∀ i, i < 12 → (valV (mergeK [] [(Sum.inr (T [71]), V.int 2), (Sum.inr (T [82]), .int 2)]) (Sum.inr (T [oneGreat.getD i 0]))).getD (.int 1) = .int (((if oneGreat.getD i 0 = 71 ∨ oneGreat.getD i 0 = 82 then 2 else 1 : Nat) : Nat) : Int) := by decide +kernel
        have hw' := hw (m / 64 % 12) (Nat.mod_lt _ (by decide))
        rw [show ([71, 82, 67, 66, 77, 88, 73, 68, 78, 74, 90, 71] : List Nat) = oneGreat from rfl, hw']
        generalize hwd : oneGreat.getD (m / 64 % 12) 0 = w at kk ⊢
        walk_at "r"
        refine x_cut (fun σ' H' => H' = H1 ∧ σ' = [some (.int (m : Int)), some (.int ((m / 64 : Nat) : Int)), some (.int ((m % 16 : Nat) : Int)), some (.str (T [w])), some (.int ((oneMany (m / 64) w : Nat) : Int)), none, none]) ?_ ?_
        · walk_at "r"
          refine wD (fun h3 => ?_) (fun h3 => ?_)
          · walk_at "r"
            refine ⟨rfl, ?_⟩
            unfold oneMany
            rw [if_pos h3]
            rfl
          · walk_at "r"
            refine ⟨rfl, ?_⟩
            unfold oneMany
            rw [if_neg h3]
            rfl
        · rintro σ' H' ⟨rfl, rfl⟩
          have hmany : oneMany (m / 64) w ≤ 4 := by
            unfold oneMany
            split
            · omega
            · split <;> omega
          walk_at "r"
          refine x_irng1' (by omega) (by omega) ?_
          rw [Int.toNat_natCast]
          refine x_lcOk (F := F) ItOk.rng W1.drop (by omega) (fun j v _ => v = .int ((oneNums.getD (drawn ((m / 64 : Nat) : Int) j % 8) 0 : Nat) : Int)) (fun _ _ _ _ _ h => h) (fun d j F' H' QQ hj s W' kq => ?_) gm_name (fun D ys F' H' s hlen hv W' => ?_)
          · refine ⟨wipe1, ?_⟩
            walk_at "r"
            refine n_lstF W' (sz rfl) fun p1 F1 H1 s1 h1 W1 => ?_
            walk_at "r"
            have ej : (0 : Int) + (j : Int) = (j : Int) := Int.zero_add _
            rw [ej]
            refine ⟨_, j, rfl, big_nat (Nat.lt_of_le_of_lt (Nat.div_le_self _ _) hm) (by decide), by omega, ?_⟩
            walk_at "r"
            have h8 : drawn ((m / 64 : Nat) : Int) j % 8 < 8 := Nat.mod_lt _ (by decide)
            refine g_ixL (sq_of (W1.old _ _ h1)) h8 (kq _ F1 H1 s1 W1 ?_)
            have : ∀ i, i < 8 → [V.int 0, V.int 1, V.int 2, V.int 3, V.int 4, V.int 7, V.int 12, V.int 9999].getD i .non = .int ((oneNums.getD i 0 : Nat) : Int) := by decide +kernel
            exact this _ h8
          · walk_at "r"
            refine n_tupleF W' (sq_of W'.get0) fun p1 F1 H1 s1 h1 W1 => ?_
            walk_at "r"
            refine n_tupF W1 (sz rfl) fun p2 F2 H2 s2 h2 W2 => ?_
            refine kk _ F2 H2 ((s.trans s1).trans s2) (.tup (st_of h2) (.cons (.str _) (.cons (.str _) (.cons (.tup (st_of (s2 _ _ h1)) ?_) .nil)))) W2.drop
            refine dpAll_of (by simp [hlen]) fun i hi => ?_
            have hi' : i < oneMany (m / 64) w := by simpa using hi
            rw [hv i hi']
            have e2 : (((List.range (oneMany (m / 64) w)).map fun j => oneNums.getD (drawn ((m / 64 : Nat) : Int) j % 8) 0).map fun (n : Nat) => PyData.int n).getD i .none = .int ((oneNums.getD (drawn ((m / 64 : Nat) : Int) i % 8) 0 : Nat) : Int) := by
              rw [List.map_map, List.getD_eq_getElem?_getD, List.getElem?_map, List.getElem?_range hi']; rfl
            rw [e2]
            exact .int _
theorem one_few (m : Nat) : (lawOne m).Few := by
  unfold lawOne
  split
  · trivial
  · split
    · trivial
    · split
      · exact ⟨by simp, by simp⟩
      · refine ⟨?_, fun n hn => ?_⟩
        · rw [List.length_map, List.length_range]
          unfold oneMany
          split
          · omega
          · split <;> omega
        · obtain ⟨j, _, rfl⟩ := List.mem_map.mp hn
          have : ∀ i, i < 8 → oneNums.getD i 0 ≤ 9999 := by decide
          exact this _ (Nat.mod_lt _ (by decide))
theorem step_few (m j : Nat) : ∀ t ∈ lawStep m j, t.Few := by
  intro t ht
  unfold lawStep at ht
  rcases List.mem_append.mp ht with h | h
  · split at h
    · obtain ⟨n, _, rfl⟩ := List.mem_map.mp h; trivial
    · cases h
  · rw [List.mem_singleton.mp h]; exact one_few _
theorem row_few (m many : Nat) : ∀ t ∈ lawRow m many, t.Few := by
  intro t ht
  obtain ⟨j, _, h⟩ := List.mem_flatMap.mp ht
  exact step_few m j t h
theorem step_len (m j : Nat) : (lawStep m j).length ≤ 15 := by
  unfold lawStep
  rw [List.length_append]
  split
  · rw [List.length_map, List.length_range]; simp; omega
  · simp
theorem flat_len {α β : Type} {f : α → List β} {k : Nat} (h : ∀ x, (f x).length ≤ k) : ∀ l : List α, (l.flatMap f).length ≤ k * l.length
  | [] => by simp
  | x :: l => by
    rw [List.flatMap_cons, List.length_append, List.length_cons, Nat.mul_succ]
    have := h x
    have := flat_len h l
    omega
theorem row_len (m many : Nat) : (lawRow m many).length ≤ 15 * many := by
  unfold lawRow
  have h := flat_len (step_len m) (List.range (m % (many + 1)))
  rw [List.length_range] at h
  have : m % (many + 1) ≤ many := by have := Nat.mod_lt m (show 0 < many + 1 by omega); omega
  exact Nat.le_trans h (Nat.mul_le_mul_left _ this)
theorem rd__law_row : RD N__law_row (t__law_row c) (sp__law_row c) := by
  rintro vs H Q E ⟨m, many, F, L, rfl, hm, hy, W, kk⟩
  unfold t__law_row
  walk_at "r"
  refine n_lstL W (sz rfl) fun p0 H0 W0 => ?_
  walk_at "r"
  refine g_modNN (Nat.succ_pos _) ?_
  walk_at "r"
  have hle : m % (many + 1) ≤ many := by have := Nat.mod_lt m (show 0 < many + 1 by omega); omega
  refine x_irng1' (by omega) (by omega) ?_
  rw [Int.toNat_natCast]
  refine x_forOk (F := F) ItOk.rng (fun i σ H' => ∃ s3 s4 s5 p F' xs, σ = [some (.int (m : Int)), some (.int (many : Int)), some (.ref p), s3, s4, s5] ∧ Same F F' ∧ DpAll c.K F' xs (((List.range i).flatMap (lawStep m)).map Tk.data) ∧ Hold F' ((p, .lst xs) :: L) H')
    (fun i σ H' _ ⟨_, _, _, _, F', xs, _, s, _, W'⟩ => (Gr.of s).trans W'.gr) ⟨none, none, none, p0, F, [], rfl, Same.refl F, .nil, W0⟩ ?_ ?_
  · rintro i σ H' hi ⟨s3, s4, s5, p, F', xs, rfl, s, hxs, W'⟩
    have ei : (0 : Int) + (i : Int) = (i : Int) := Int.zero_add _
    rw [ei]
    have hxl := dpAll_len hxs
    rw [List.length_map] at hxl
    have hxl2 := flat_len (step_len m) (List.range i)
    rw [List.length_range] at hxl2
    walk_at "r"
    refine ⟨_, i, rfl, big_nat hm (by decide), by omega, ?_⟩
    have hdr := drawn_small (m : Int) i
    have hst : lawStep m i = (if drawn m i % 5 = 0 then (List.range (drawn m i / 64 % 15)).map fun n => .sign (runSigns.getD ((drawn m i / 8 + n) % 4) 0) else []) ++ [lawOne (drawn m i / 8)] := rfl
    generalize hg : drawn (m : Int) i = g at hdr hst ⊢
    walk_at "r"
    refine x_cut (fun σ' H2 => ∃ s5 p2 F2 ys, σ' = [some (.int (m : Int)), some (.int (many : Int)), some (.ref p2), some (.int (i : Int)), some (.int (g : Int)), s5] ∧ Same F' F2 ∧ ys.length ≤ xs.length + 15 ∧
      DpAll c.K F2 ys (((List.range i).flatMap (lawStep m)).map Tk.data ++ (if g % 5 = 0 then (List.range (g / 64 % 15)).map fun n => Tk.sign (runSigns.getD ((g / 8 + n) % 4) 0) else []).map Tk.data) ∧ Hold F2 ((p2, .lst ys) :: L) H2) ?_ ?_
    · walk_at "r"
      refine wD (fun h => ?_) (fun h => ?_)
      · rw [if_pos h]
        walk_at "r"
        refine x_irng1' (by omega) (by omega) ?_
        rw [Int.toNat_natCast]
        refine x_lcOk (F := F') ItOk.rng W' (by omega) (fun n v F => Dp c.K F v (Tk.sign (runSigns.getD ((g / 8 + n) % 4) 0)).data) (fun _ _ _ _ g h => g.dp h) (fun d n F1 H1 QQ hn s1 W1 kq => ?_) gm_name (fun D ys F1 H1 s1 hlen hv W1 => ?_)
        · refine ⟨wipe1, ?_⟩
          have en : (0 : Int) + (n : Int) = (n : Int) := Int.zero_add _
          rw [en]
          walk_at "r"
          refine g_ixX (by decide) (Nat.mod_lt _ (by decide)) ?_
          walk_at "r"
          refine n_tupF W1 (sz rfl) fun p1 F4 H4 s4 h4 W4 => ?_
          exact kq _ F4 H4 s4 W4 (.tup (st_of h4) (.cons (.str _) (.cons (.str _) .nil)))
        · refine n_addL W1.drop (W1.get1) W1.get0 (szl (by omega)) fun r H4 W4 => ?_
          walk_at "r"
          refine ⟨_, r, F1, xs ++ ys, rfl, s1, by rw [List.length_append]; omega, dpAll_app ((Gr.of s1).dpAll hxs) (dpAll_of (by simp [hlen]) fun j hj => ?_), W4.sub (List.Sublist.cons₂ _ (List.sublist_cons_self _ _))⟩
          have hj' : j < g / 64 % 15 := by simpa using hj
          have e2 : (((List.range (g / 64 % 15)).map fun n => Tk.sign (runSigns.getD ((g / 8 + n) % 4) 0)).map Tk.data).getD j .none = (Tk.sign (runSigns.getD ((g / 8 + j) % 4) 0)).data := by
            rw [List.map_map, List.getD_eq_getElem?_getD, List.getElem?_map, List.getElem?_range hj']; rfl
          rw [e2]
          exact hv j hj'
      · rw [if_neg h]
        walk_at "r"
        exact ⟨s5, p, F', xs, rfl, Same.refl F', by omega, by rw [List.map_nil, List.append_nil]; exact hxs, W'⟩
    · rintro σ2 H2 ⟨s5, p2, F2, ys, rfl, s2, hyl, hys, W2⟩
      walk_at "r"
      refine x_tylst (sq_of W2.get0) ?_
      walk_at "r"
      refine ⟨g / 8, F2, _, rfl, Nat.lt_of_le_of_lt (Nat.div_le_self _ _) (Nat.lt_trans hdr (by decide)), W2, fun v F4 H4 s4 hv W4 => ?_⟩
      walk_at "r"
      refine ⟨p2, ys, v, rfl, rfl, W4.get0, szlt (by omega), ?_⟩
      refine ⟨_, _, _, p2, F4, ys ++ [v], rfl, (s.trans s2).trans s4, ?_, W4.put0⟩
      rw [List.range_succ, List.flatMap_append, List.map_append, List.flatMap_singleton, hst, List.map_append, ← List.append_assoc]
      exact dpAll_app ((Gr.of s4).dpAll hys) (.cons hv .nil)
  · rintro σ H' ⟨s3, s4, s5, p, F', xs, rfl, s, hxs, W'⟩
    walk_at "r"
    exact kk p xs F' H' s hxs W'
/-- one thing told, as it lies at b -/
def TkAt (K : PySem.W.Frag) (F : Hp) (b : Addr) (t : Tk) : Prop := match t with
    | .sign n => SqT K F b [.str (T [115, 105, 103, 110]), .str (T [n])]
    | .fin => SqT K F b [.str (T [101, 110, 100])]
    | .act w ns => ∃ q, SqT K F b [.str (T [100, 111]), .str (T [w]), .ref q] ∧ SqT K F q (ns.map fun (n : Nat) => V.int n)
theorem tk_view {K : PySem.W.Frag} {F : Hp} {v : V} {t : Tk} (h : Dp K F v t.data) : ∃ b, v = .ref b ∧ TkAt K F b t := by
  cases t with
  | sign n =>
    cases h with
    | tup hs ha =>
      cases ha with
      | cons h1 h2 => cases h1; cases h2 with | cons h3 h4 => cases h3; cases h4; exact ⟨_, rfl, hs⟩
  | fin =>
    cases h with
    | tup hs ha =>
      cases ha with
      | cons h1 h2 => cases h1; cases h2; exact ⟨_, rfl, hs⟩
  | act w ns =>
    cases h with
    | tup hs ha =>
      cases ha with
      | cons h1 h2 =>
        cases h1
        cases h2 with
        | cons h3 h4 =>
          cases h3
          cases h4 with
          | cons h5 h6 =>
            cases h6
            cases h5 with
            | tup hq hn =>
              refine ⟨_, rfl, _, hs, ?_⟩
              have : ∀ (l : List Nat) (ys : List V), DpAll K F ys (l.map fun (n : Nat) => .int n) → ys = l.map fun (n : Nat) => V.int n := by
                intro l
                induction l with
                | nil => intro ys h; cases h; rfl
                | cons n l ih => intro ys h; cases h with | cons a b => cases a; rw [ih _ b]; rfl
              rw [this _ _ hn] at hq
              exact hq
theorem Tk.text_len {t : Tk} (h : t.Few) : t.text.length ≤ 24 := by
  cases t with
  | sign n => show (if n = 94 then [94, 94] else [n]).length ≤ 24; split <;> simp
  | fin => show 1 ≤ 24; decide
  | act w ns =>
    show (if isSmall w then [94, w] else [94, w, 40] ++ (TL.joinL [44] (ns.map TL.numL) ++ [41])).length ≤ 24
    split
    · simp
    · have := joinL_len (sep := [44]) (b := 4) (ls := ns.map TL.numL) fun l hl => by obtain ⟨n, hn, rfl⟩ := List.mem_map.mp hl; exact numL_len4 (h.2 n hn)
      rw [List.length_map] at this
      have h4 : ns.length ≤ 4 := h.1
      have hl1 : ([44] : List Nat).length = 1 := rfl
      rw [hl1] at this
      simp
      omega
theorem lawText_len {ts : List Tk} (h : ∀ t ∈ ts, t.Few) : (lawText ts).length ≤ 30 * ts.length := by
  unfold lawText
  induction ts with
  | nil => simp
  | cons t ts ih =>
    rw [List.flatMap_cons, List.length_append, List.length_cons, Nat.mul_succ]
    have := Tk.text_len (h t List.mem_cons_self)
    have := ih fun x hx => h x (List.mem_cons_of_mem _ hx)
    omega
theorem getD_mem {α : Type} {l : List α} {i : Nat} {d : α} (h : i < l.length) : l.getD i d ∈ l := by
  rw [List.getD_eq_getElem?_getD, List.getElem?_eq_getElem h]; exact List.getElem_mem h
theorem getD_map {α β : Type} {l : List α} {i : Nat} {d : α} {e : β} {f : α → β} (h : i < l.length) : (l.map f).getD i e = f (l.getD i d) := by
  rw [List.getD_eq_getElem?_getD, List.getD_eq_getElem?_getD, List.getElem?_map, List.getElem?_eq_getElem h]; rfl
theorem take_getD {α : Type} {l : List α} {i : Nat} {d : α} (h : i < l.length) : l.take (i + 1) = l.take i ++ [l.getD i d] := by
  rw [List.take_succ, List.getD_eq_getElem?_getD, List.getElem?_eq_getElem h]; rfl
/-- ','.join([str(n) for n in ns]) -/
theorem x_nums {σ : L2.St} {H F : Hp} {L : List (Addr × HO)} {Q : VK} {te : TE} {q : Addr} {ns : List Nat} {k : Nat} (W : Hold F L H) (hq : SqT c.K F q (ns.map fun (n : Nat) => V.int n)) (hn : ns.length ≤ 4 ∧ ∀ n ∈ ns, n ≤ 9999) (hk : k < σ.length)
    (hte : ∀ R : VK, R (.ref q) H → te σ H R) (kk : ∀ F' H', Same F F' → Hold F' L H' → Q (.str (T (TL.joinL [44] (ns.map TL.numL)))) H') :
    tM1 (u_join c.K) (tC (.str ⟨#[44]⟩)) (tLc (iTup c.K te) (gName k) tYes (tCB uStr (tCons (tVar k) tNil)) [k]) σ H Q := by
  walk_at "r"
  refine hte _ ?_
  refine x_itup' (W.gr.sqT hq) ?_
  refine x_lcOk (F := F) (ItOk.tup hq) W (by simp; omega) (fun i v _ => v = .str (T (TL.numL (ns.getD i 0)))) (fun _ _ _ _ _ h => h) (fun d i F' H' QQ hi s W' kq => ?_) gm_name (fun D ys F' H' s hlen hv W' => ?_)
  · refine ⟨wipe1, ?_⟩
    have hi' : i < ns.length := by simpa using hi
    rw [getD_map (d := 0) hi']
    walk_at "r"
    refine x_var (by rw [List.getElem?_set_self (by rw [wipe_length]; exact hk)]) ?_
    walk_at "r"
    refine l_strN ?_ (kq _ F' H' (Same.refl F') W' rfl)
    have := hn.2 _ (getD_mem (d := 0) hi')
    exact Nat.lt_of_le_of_lt this (by decide)
  · have ey : ys = (ns.map TL.numL).map fun l => .str (T l) := by
      refine List.ext_getElem? fun j => ?_
      by_cases hj : j < ns.length
      · have a1 := hv j (by simpa using hj)
        have hjy : j < ys.length := by rw [hlen]; simpa using hj
        rw [List.getD_eq_getElem?_getD, List.getElem?_eq_getElem hjy, List.getD_eq_getElem?_getD, List.getElem?_eq_getElem hj] at a1
        rw [List.getElem?_eq_getElem hjy, List.getElem?_map, List.getElem?_map, List.getElem?_eq_getElem hj]
        exact congrArg some a1
      · rw [List.getElem?_eq_none (by rw [hlen]; simpa using hj), List.getElem?_eq_none (by simpa using hj)]
    rw [ey] at W'
    refine l_join 4 (.inl (sq_of W'.get0)) (fun l hl => ?_) (by simp; omega) (kk F' H' s W'.drop)
    obtain ⟨n, hm, rfl⟩ := List.mem_map.mp hl
    exact numL_len4 (hn.2 n hm)
theorem rd__law_text : RD N__law_text (t__law_text c) (sp__law_text c) := by
  rintro vs H Q E ⟨a, xs, ts, F, L, rfl, hs, hd, hf, hl, W, kk⟩
  unfold t__law_text
  walk_at "r"
  refine n_lstL W (sz rfl) fun p0 H0 W0 => ?_
  walk_at "r"
  have hxl := dpAll_len hd
  rw [List.length_map] at hxl
  refine x_ilist' (W0.gr.sqL hs) ?_
  refine x_forOk (F := F) (ItOk.list hs) (fun i σ H' => ∃ s2 s3 F', σ = [some (.ref a), some (.ref p0), s2, s3] ∧ Same F F' ∧ Hold F' ((p0, .lst ((ts.take i).map fun t => .str (T t.text))) :: L) H')
    (fun i σ H' _ ⟨_, _, F', _, s, W'⟩ => (Gr.of s).trans W'.gr) ⟨none, none, F, rfl, Same.refl F, W0⟩ ?_ ?_
  · rintro i σ H' hi ⟨s2, s3, F', rfl, s, W'⟩
    have hi' : i < ts.length := by omega
    have hv := dpAll_get hd i (by simpa using hi')
    rw [getD_map (d := Tk.fin) hi'] at hv
    have hfew := hf _ (getD_mem (d := Tk.fin) hi')
    obtain ⟨b, hb, hvw⟩ := tk_view hv
    rw [hb]
    have fin : ∀ (l : List Nat) F4 H4 sl, Same F' F4 → l = (ts.getD i .fin).text → Hold F4 ((p0, .lst ((ts.take i).map fun t => .str (T t.text))) :: L) H4 → rAppend (.ref p0) [.str (T l)] H4 (fun _ H1 => ∃ s2 s3 F', [some (V.ref a), some (.ref p0), some (.ref b), sl] = [some (V.ref a), some (.ref p0), s2, s3] ∧ Same F F' ∧ Hold F' ((p0, .lst ((ts.take (i + 1)).map fun t => .str (T t.text))) :: L) H1) := by
      intro l F4 H4 sl s4 hl4 W4
      refine ⟨p0, _, _, rfl, rfl, W4.get0, szlt (by rw [List.length_map, List.length_take]; omega), some (.ref b), sl, F4, rfl, s.trans s4, ?_⟩
      rw [take_getD (d := Tk.fin) hi', List.map_append, List.map_cons, List.map_nil, ← hl4]
      exact W4.put0
    walk_at "r"
    cases ht : ts.getD i .fin with
    | sign n =>
      rw [ht] at hvw fin
      refine l_ixT (W'.gr.sqT ((Gr.of s).sqT hvw)) rfl ?_
      walk_at "r"
      refine wT (decide_eq_true rfl) ?_
      walk_at "r"
      refine x_tylst (sq_of W'.get0) ?_
      walk_at "r"
      show tOp (uIx c.K) (tVar 2) (tC (.int 1)) _ _ _
      walk_at "r"
      refine l_ixT (W'.gr.sqT ((Gr.of s).sqT hvw)) rfl ?_
      refine ⟨T [n], rfl, by show 1 + (1 + 1) * 2 ≤ 16777216; decide, ?_⟩
      walk_at "r"
      have e : Txt.replace (T [n]) ⟨#[94]⟩ ⟨#[94, 94]⟩ = T (Tk.sign n).text := by
        refine TL.ext_tl ?_
        have z := PySem.StrLaws.replace_list (x := T [n]) (y := ⟨#[94]⟩) (z := ⟨#[94, 94]⟩) (by decide)
        rw [TL.tl_mk]
        refine z.trans ?_
        show _ = (if n = 94 then [94, 94] else [n])
        by_cases h : n = 94
        · subst h; rfl
        · rw [if_neg h]
          simp [PySem.StrLaws.replL, PySem.StrLaws.replS, TL.pre, h]
      rw [e]
      exact fin _ F' H' _ (Same.refl F') rfl W'
    | fin =>
      rw [ht] at hvw fin
      refine l_ixT (W'.gr.sqT ((Gr.of s).sqT hvw)) rfl ?_
      walk_at "r"
      refine wF (decide_eq_false (by decide)) ?_
      walk_at "r"
      refine l_ixT (W'.gr.sqT ((Gr.of s).sqT hvw)) rfl ?_
      walk_at "r"
      refine wT (decide_eq_true rfl) ?_
      walk_at "r"
      refine x_tylst (sq_of W'.get0) ?_
      walk_at "r"
      exact fin [10] F' H' _ (Same.refl F') rfl W'
    | act w ns =>
      rw [ht] at hvw fin hfew
      obtain ⟨q, h1, h2⟩ := hvw
      refine l_ixT (W'.gr.sqT ((Gr.of s).sqT h1)) rfl ?_
      walk_at "r"
      refine wF (decide_eq_false (by decide)) ?_
      walk_at "r"
      refine l_ixT (W'.gr.sqT ((Gr.of s).sqT h1)) rfl ?_
      walk_at "r"
      refine wF (decide_eq_false (by decide)) ?_
      walk_at "r"
      refine l_ixT (W'.gr.sqT ((Gr.of s).sqT h1)) rfl ?_
      walk_at "r"
      rw [isSmall_mem']
      refine w2 (fun hsm => ?_) (fun hsm => ?_)
      · walk_at "r"
        refine x_tylst (sq_of W'.get0) ?_
        walk_at "r"
        refine l_ixT (W'.gr.sqT ((Gr.of s).sqT h1)) rfl ?_
        refine l_addX (by show 1 + 1 ≤ 1000000; decide) ?_
        walk_at "r"
        exact fin _ F' H' _ (Same.refl F') (by show _ = (if isSmall w then [94, w] else [94, w, 40] ++ (TL.joinL [44] (ns.map TL.numL) ++ [41])); rw [if_pos hsm]; rfl) W'
      · walk_at "r"
        refine x_tylst (sq_of W'.get0) ?_
        walk_at "r"
        refine l_ixT (W'.gr.sqT ((Gr.of s).sqT h1)) rfl ?_
        refine l_addX (by show 1 + 1 ≤ 1000000; decide) ?_
        walk_at "r"
        refine l_addX (by show 2 + 1 ≤ 1000000; decide) ?_
        refine x_nums (F := F') W' ((Gr.of s).sqT h2) hfew (by show 3 < 4; decide) (fun R hR => ?_) (fun F4 H4 s4 W4 => ?_)
        · walk_at "r"
          exact l_ixT (W'.gr.sqT ((Gr.of s).sqT h1)) rfl hR
        have hjl := joinL_len (sep := [44]) (b := 4) (ls := ns.map TL.numL) fun l hl => by obtain ⟨n, hn, rfl⟩ := List.mem_map.mp hl; exact numL_len4 (hfew.2 n hn)
        rw [List.length_map] at hjl
        have := hfew.1
        have hl1 : ([44] : List Nat).length = 1 := rfl
        rw [hl1] at hjl
        refine l_addX (by simp; omega) ?_
        walk_at "r"
        refine l_addX (by simp; omega) ?_
        walk_at "r"
        refine fin _ F4 H4 _ s4 ?_ W4
        show _ = (if isSmall w then [94, w] else [94, w, 40] ++ (TL.joinL [44] (ns.map TL.numL) ++ [41]))
        rw [if_neg (by rw [hsm]; decide)]
        simp
  · rintro σ H' ⟨s2, s3, F', rfl, s, W'⟩
    walk_at "r"
    rw [hxl, List.take_length] at W'
    have em : (ts.map fun t => V.str (T t.text)) = (ts.map Tk.text).map fun l => V.str (T l) := by rw [List.map_map]; rfl
    rw [em] at W'
    refine l_join 30 (.inl (sq_of W'.get0)) (fun l hl => ?_) (by simp; omega) ?_
    · obtain ⟨t, ht, rfl⟩ := List.mem_map.mp hl
      exact Nat.le_trans (Tk.text_len (hf t ht)) (by decide)
    · rw [joinL_nil]
      have := kk F' H' s W'.drop
      unfold lawText at this
      rw [List.flatMap_def] at this
      exact this
end
end Ss
/-! ## A lambda without parameters handed to _law_told -/
namespace Ss
open PySem PySem.Spec PyProof.Rows L2 LamX
/-- told, where nothing is raised -/
def TT0 : (XK → Hp → VK → Prop) → Hp → VK → Prop := fun tl H Q => tl (fun _ _ _ => False) H Q
theorem told0_gives {X : Cx} {Ng : List Str} {x a e q n : Str} {sg : Scope} {g CS : Addr} {cdg : Value} {p1 p2 p3 p4 p7 p8 : Pos} {b₀ : Stmt} {suite : List Stmt} (hN : Ng.Nodup) (hi : Ng[1]? = some n) (hln : sg.names.lookup n = some .local)
    (hge : sg.names.lookup e = some .globalImplicit) (hme : X.mg e = some (.ref CS)) (hde : (e == ("__debug__" : Str)) = false) (h0 : ∀ f : Addr, (L2.start Ng [V.ref f])[0]? = some (some (V.ref f))) :
    GivesTo X Ng x sg g cdg [.Try [.Return (some (.Call (.Name a p1) [] [] p2)) p3] [.ExceptHandler (some (.Name e p4)) (some n) (b₀ :: suite) p7] [] [] p8] a q TT0 := by
  intro f c' s H Q tl act hc h
  have hgl : Gl (cxOf C8.CX0 X.prog X.w X.K X.mg X.base Ng x sg g cdg X.A X.stack s H C8.E0).nox e := hge
  refine ⟨_, pss_one (L2.ps_try_as (X := (cxOf C8.CX0 X.prog X.w X.K X.mg X.base Ng x sg g cdg X.A X.stack s H C8.E0).nox) (c := .ref CS) (i := 1) (Wout := fun _ _ _ _ => False)
      (tb := fun W D σ H => ∃ Ech : XK, (∀ cls d σ' H', Ech cls d H' → W cls d σ' H') ∧ σ[0]? = some (some (.ref f)) ∧ H c' = some (CodeO c' q) ∧ tl Ech H D.rt)
      rfl rfl hN hi hln ⟨hgl, hde, .inl hme⟩ LamX.takes0 (fun W pn xe tk _ => ?_) (fun a oe cls d pn _ _ => pss_never)), ?_⟩
  · refine ⟨fun pins s' σ H' D I h' => ?_⟩
    obtain ⟨Ech, hW, h1, h2, h3⟩ := h'
    have hp := act W pn xe Ech p1 p2 tk hW
    have hq := pss_one (ps_ret (pos := p3) hp)
    exact hq.run pins s' σ H' D I ⟨h1, h2, h3⟩
  · exact ⟨fun _ _ _ => False, fun cls d σ' H' z => z.elim, h0 f, hc, h⟩
/-- the def _law_told, wherever it stands -/
structure ToldOk (P : Program) (w : World) (K : PySem.W.Frag) (mg : Str → Option Value) (pg : Arguments) (bg : List Stmt) (sg : Scope) : Prop where
  ex : ∃ (g : Addr) (oc : Value) (od : Option Addr) (dV kV doc pm : Value) (an : Option Addr) (cdv ct : Value) (osl : Array (Option Value)), mg "_law_told" = some (.ref g) ∧ PySem.W.keepIn K (.ref g) = true ∧
    K.lookup g = some ⟨oc, od, .func (PySem.W.fnOf "_law_told" "_law_told" pg bg sg dV kV doc pm an cdv ct), osl⟩ ∧ PySem.W.codeIn K cdv "_law_told" = true ∧ L2.Binds K (PySem.W.fnOf "_law_told" "_law_told" pg bg sg dV kV doc pm an cdv ct) ["_law_deed"] []
  gives : ∀ (X : Cx), X.mg = mg → ∀ (g : Addr) (cdg : Value) (q : Str), GivesTo X ["_law_deed", "_law_e"] "_law_told" sg g cdg bg "_law_deed" q TT0
  sc : FnScope ["_law_deed", "_law_e"] ["_law_deed"] sg
  vis : Vis sg "_law_deed"
theorem pe_told {X : Cx} {T : List (Addr × Str)} {pg : Arguments} {bg : List Stmt} {sg : Scope} {c P : Addr} {k k' : Nat} {params : Arguments} {body : Expr} {scope : Scope} {t : XK → TE} {p lpos pos : Pos} (D : ToldOk X.prog X.w X.K X.mg pg bg sg)
    (TB : TabB X.base X.mg c P) (hcode : X.env.code = .ref c) (hT : T = [(P, X.env.qual ++ "<lambda>")]) (hr : Room k' X.A) (L : LamS X.env.scope scope) (hdef : defaultsOf params X.env = ([], []))
    (hbind : ∀ (q : Str) (cl : List (Str × Addr)) (pm cv ctv : Value), bindArgs (PySem.W.kla_fn "<lambda>" q params body scope cl pm cv ctv) ⟨[], []⟩ = pure [])
    (hbody : ∀ (A : Around) (outer : List Env) (s : Shared) (H : Hp) (E : XK) (f c' : Addr), Room k (A.deeper (lamEnv X scope s.heap.objs.size f c')) → PE (lamCx X A outer s H E scope f c') body (t E))
    (hk : k + 2 ≤ k' := by decide) (hg : Gl X "_law_told" := by rfl) : PE X (.Call (.Name "_law_told" p) [.Lambda params body scope lpos] [] pos) (tLam T TT0 t) := by
  obtain ⟨g, oc, od, dV, kV, doc, pm, an, cdv, ct, osl, h1, h2, h3, h4, h5⟩ := D.ex
  subst hT
  exact pe_lamcall hg h1 h2 h3 h4 h5 D.sc rfl D.vis (D.gives X rfl g cdv _) TB hcode (List.mem_singleton.mpr rfl) (fun p hp _ => by rw [List.mem_singleton.mp hp]) (hr.mono hk) L hdef hbind hbody
/-- what may be one's own when a lambda is made -/
def Plain : HO → Prop
  | .lst _ => True
  | .ins _ _ _ => True
  | .dK _ => True
  | .dT _ => True
  | _ => False
theorem x_lam {T : List (Addr × Str)} {t : XK → TE} {σ : L2.St} {F H : Hp} {L : List (Addr × HO)} {Q : VK} (W : Hold F L H) (hL : ∀ x ∈ L, Plain x.2) (tb : Tabs T F)
    (k : ∀ F1 H1, Gr F F1 → Tabs T F1 → Hold F1 L H1 → t (fun _ _ _ => False) σ H1 Q) : tLam T TT0 t σ H Q := by
  refine ⟨tb.ext W.old, fun H1 eN T1 => ?_⟩
  refine k (fun b => if b ∈ L.map (·.1) then none else H1 b) H1 (fun b o e n => ?_) (fun p hp => ?_) ?_
  · have hb : b ∉ L.map (·.1) := fun hm => by
      obtain ⟨x, hx, rfl⟩ := List.mem_map.mp hm
      rw [W.sep x hx] at e; cases e
    show (if b ∈ L.map (·.1) then none else H1 b) = some o
    rw [if_neg hb]
    exact eN b o (W.old b o e) n
  · obtain ⟨ps, h1, h2, h3⟩ := T1 p hp
    have nL : ∀ b o, H1 b = some o → ¬ Plain o → b ∉ L.map (·.1) := fun b o e hn hm => by
      obtain ⟨x, hx, rfl⟩ := List.mem_map.mp hm
      have pl := hL x hx
      have z := eN x.1 x.2 (W.own x hx) (fun ps q => by rw [q] at pl; exact pl)
      rw [e] at z
      cases z
      exact hn pl
    refine ⟨ps, ?_, h2, fun pos cv hc => ?_⟩
    · show (if p.1 ∈ L.map (·.1) then none else H1 p.1) = _
      rw [if_neg (nL _ _ h1 (fun z => z))]; exact h1
    · obtain ⟨c, e1, e2⟩ := h3 pos cv hc
      refine ⟨c, e1, ?_⟩
      show (if c ∈ L.map (·.1) then none else H1 c) = _
      rw [if_neg (nL _ _ e2 (fun z => by unfold CodeO at z; exact z))]; exact e2
  · refine ⟨fun b o e => ?_, fun x hx => ?_, fun x hx => ?_, W.nd⟩
    · have e' : (if b ∈ L.map (·.1) then none else H1 b) = some o := e
      by_cases hb : b ∈ L.map (·.1)
      · rw [if_pos hb] at e'; cases e'
      · rw [if_neg hb] at e'; exact e'
    · exact eN x.1 x.2 (W.own x hx) (fun ps q => by have := hL x hx; rw [q] at this; exact this)
    · show (if x.1 ∈ L.map (·.1) then none else H1 x.1) = none
      rw [if_pos (List.mem_map_of_mem hx)]
end Ss
/-! ## law k10: the defs beside the common ones -/
namespace Ss
open PySem PySem.Spec PyProof.Rows L2
open Ss in
local macro_rules | `(tactic| walk_at "fg") => `(tactic| first | with_reducible exact fsReader_g0 | with_reducible exact fsReader_g1)
open Ss in
local macro_rules | `(tactic| walk_at "r") => `(tactic| repeat (first
  | with_reducible refine x_seq ?_ | with_reducible refine x_asg ?_ | with_reducible refine x_var rfl ?_ | with_reducible refine x_c ?_ | with_reducible refine x_op ?_ | with_reducible refine x_name ?_ | with_reducible refine x_gcons ?_ | with_reducible refine x_gnil ?_
  | with_reducible refine x_cons ?_ | with_reducible refine x_nil ?_ | with_reducible refine x_cb ?_ | with_reducible refine x_ifs ?_ | with_reducible refine x_test ?_ | with_reducible refine x_bl ?_
  | with_reducible refine g_addNN ?_ | with_reducible refine g_addNL ?_ | with_reducible refine g_addLN ?_ | with_reducible refine l_addI ?_ | with_reducible refine l_subI ?_ | with_reducible refine g_ltNL ?_ | with_reducible refine l_ltI ?_ | with_reducible refine l_leI ?_ | with_reducible refine l_gtI ?_ | with_reducible refine l_geI ?_ | with_reducible refine l_eqX ?_ | with_reducible refine l_neX ?_ | with_reducible refine g_eqNL ?_ | with_reducible refine l_eqII ?_ | with_reducible refine l_neII ?_ | with_reducible refine l_eq rfl ?_ | with_reducible refine l_ne rfl ?_
  | with_reducible refine x_fld ?_ | with_reducible refine x_ret ?_ | with_reducible refine x_drop ?_ | with_reducible refine x_next ?_ | with_reducible refine x_tup ?_ | with_reducible refine x_lst ?_ | with_reducible refine x_f ?_ | with_reducible refine x_o ?_ | with_reducible refine x_n ?_
  | with_reducible refine x_bm ?_ | with_reducible refine x_bm0 ?_ | with_reducible refine x_m1 ?_ | with_reducible refine x_m0 ?_ | with_reducible refine x_isstr ?_ | with_reducible refine x_tystr ?_ | with_reducible refine x_sl ?_ | with_reducible refine x_part ?_ | with_reducible refine x_part' ?_ | with_reducible refine x_nopart ?_
  | with_reducible refine x_sfld ?_ | with_reducible refine x_if ?_ | with_reducible refine x_isty ?_ | with_reducible refine x_chain ?_ | with_reducible refine x_andV ?_ | with_reducible refine x_orV ?_ | with_reducible refine x_notV ?_ | with_reducible refine x_B ?_ | with_reducible refine x_and ?_ | with_reducible refine x_or ?_ | with_reducible refine x_not ?_ | with_reducible refine x_tru ?_ | with_reducible refine x_yes ?_
  | with_reducible refine x_un ?_ | with_reducible refine x_neg ?_ | with_reducible refine x_par ?_ | with_reducible refine x_par' ?_ | with_reducible refine x_retN ?_ | with_reducible refine x_brk ?_ | with_reducible refine x_cont ?_ | with_reducible refine x_rz ?_
  | with_reducible refine l_leS ?_ | with_reducible refine l_ltS ?_ | with_reducible refine l_inX ?_ | with_reducible refine l_niX ?_ | with_reducible refine l_inS ?_ | with_reducible refine l_niS ?_ | with_reducible refine l_count ?_ | with_reducible refine l_ord ?_ | with_reducible refine l_max ?_ | with_reducible refine l_min ?_ | with_reducible refine l_intI ?_ | with_reducible refine l_intB ?_ | with_reducible refine l_is ?_ | with_reducible refine l_isn ?_
  | with_reducible refine g_modNL (by decide) ?_ | with_reducible refine g_divNL (by decide) (by decide) ?_ | with_reducible refine l_modI (by decide) ?_ | with_reducible refine x_for ?_ | with_reducible refine x_lc ?_ | with_reducible refine x_ilist ?_ | with_reducible refine x_itup ?_ | with_reducible refine x_istr ?_ | with_reducible refine x_istr' ?_ | with_reducible refine x_irng1 ?_ | with_reducible refine x_irng2 ?_
  | (with_reducible refine x_get (by first | assumption | exact Hold.get0 (by assumption) | exact Hold.get1 (by assumption)) (by assumption) (by assumption) (by walk_at "fg") ?_)
  | (with_reducible refine x_ao (by first | assumption | exact Hold.get0 (by assumption) | exact Hold.get1 (by assumption)) (by kernel_rfl) ?_)
  | with_reducible refine x_ienum ?_ | with_reducible refine x_izip ?_ | with_reducible refine x_chain3 ?_
  | (with_reducible refine x_par2 ?_)
  | (with_reducible refine x_par3 ?_) | (with_reducible refine x_par3' ?_)))
def sp_written (c : Ctx) : Sp := fun vs H Q _ => ∃ a xs ts F L, vs = [.ref a] ∧ SqL c.K F a xs ∧ DpAll c.K F xs (List.map Tk.data ts) ∧ (∀ t ∈ ts, t.Few) ∧ ts.length ≤ 10000 ∧ Hold F L H ∧ ∀ F' H', Same F F' → Hold F' L H' → Q (.str (T (lawText ts))) H'
def broken (i : Nat) : List Nat := [[94], [94, 65], [94, 71, 40], [94, 71, 40, 49], [94, 71, 40, 49, 44], [94, 71, 40, 49, 50, 51, 52], [94, 90, 40, 49, 44, 50, 44, 51, 44, 52], [94, 78, 40, 57, 57, 57, 57], [94, 88, 40, 48]].getD i []
def sp__law_broken (c : Ctx) : Sp := fun vs H Q _ => ∃ m F L, vs = [.int ((m : Nat) : Int)] ∧ Hold F L H ∧ ∀ (r : Addr) F' H', Same F F' → F' r = some (.tup [.str (T (broken (m % 9))), .int ((broken (m % 9)).length : Nat)]) → Hold F' L H' → Q (.ref r) H'
def t_written (c : Ctx) (E : XK) : TS :=
  (tSeq (tAsg (tC (.str ⟨#[]⟩)) (gName 1))
  (tSeq (tFor (iList c.K (tVar 0)) (gName 2) (tIfS (tTest (tOp (uEq c.K) (tOp (uIx c.K) (tVar 2) (tC (.int 0))) (tC (.str ⟨#[101, 110, 100]⟩)))) (tAsg (tOp (uAdd c.K) (tVar 1) (tC (v_GAP c))) (gName 1)) (tIfS (tTest (tOp (uEq c.K) (tOp (uIx c.K) (tVar 2) (tC (.int 0))) (tC (.str ⟨#[115, 105, 103, 110]⟩)))) (tAsg (tOp (uAdd c.K) (tVar 1) (tIf (tTest (tOp (uEq c.K) (tOp (uIx c.K) (tVar 2) (tC (.int 1))) (tC (.str ⟨#[94]⟩)))) (tC (.str ⟨#[94, 94]⟩)) (tOp (uIx c.K) (tVar 2) (tC (.int 1))))) (gName 1)) (tIfS (tTest (tOp (uIn c.K) (tOp (uIx c.K) (tVar 2) (tC (.int 1))) (tC (v_SMALL c)))) (tAsg (tOp (uAdd c.K) (tOp (uAdd c.K) (tVar 1) (tC (.str ⟨#[94]⟩))) (tOp (uIx c.K) (tVar 2) (tC (.int 1)))) (gName 1)) (tAsg (tOp (uAdd c.K) (tOp (uAdd c.K) (tOp (uAdd c.K) (tOp (uAdd c.K) (tOp (uAdd c.K) (tVar 1) (tC (.str ⟨#[94]⟩))) (tOp (uIx c.K) (tVar 2) (tC (.int 1)))) (tC (.str ⟨#[40]⟩))) (tM1 (u_join c.K) (tC (.str ⟨#[44]⟩)) (tLc (iTup c.K (tOp (uIx c.K) (tVar 2) (tC (.int 2)))) (gName 3) tYes (tCB uStr (tCons (tVar 3) tNil)) [3]))) (tC (.str ⟨#[41]⟩))) (gName 1))))))
  (tRet (tVar 1))))
abbrev N_written : List Str := ["row", "found", "one", "number"]

def t__law_broken (c : Ctx) (E : XK) : TS :=
  (tSeq (tAsg (tLst (tCons (tC (.str ⟨#[94]⟩)) (tCons (tC (.str ⟨#[94, 65]⟩)) (tCons (tC (.str ⟨#[94, 71, 40]⟩)) (tCons (tC (.str ⟨#[94, 71, 40, 49]⟩)) (tCons (tC (.str ⟨#[94, 71, 40, 49, 44]⟩)) (tCons (tSl (uSl c.K) (tC (.str ⟨#[94, 71, 40, 49, 50, 51, 52, 53]⟩)) tNoPart (tPart (tC (.int 7)))) (tCons (tC (.str ⟨#[94, 90, 40, 49, 44, 50, 44, 51, 44, 52]⟩)) (tCons (tC (.str ⟨#[94, 78, 40, 57, 57, 57, 57]⟩)) (tCons (tC (.str ⟨#[94, 88, 40, 48]⟩)) tNil)))))))))) (gName 1))
  (tSeq (tAsg (tOp (uIx c.K) (tVar 1) (tOp uMod (tVar 0) (tCB (uLen c.K) (tCons (tVar 1) tNil)))) (gName 2))
  (tRet (tTup (tCons (tVar 2) (tCons (tCB (uLen c.K) (tCons (tVar 2) tNil)) tNil))))))
abbrev N__law_broken : List Str := ["_law_more", "_law_some", "_law_found"]

section
variable {c : Ctx}
theorem rd__law_broken : RD N__law_broken (t__law_broken c) (sp__law_broken c) := by
  rintro vs H Q E ⟨m, F, L, rfl, W, kk⟩
  unfold t__law_broken
  walk_at "r"
  refine l_slX (by decide) ?_
  walk_at "r"
  refine n_lstF W (sz rfl) fun p1 F1 H1 s1 h1 W1 => ?_
  walk_at "r"
  refine l_lenL (sq_of (W1.old _ _ h1)) ?_
  refine g_modNN (by decide) ?_
  have h9 : m % 9 < 9 := Nat.mod_lt _ (by decide)
  refine g_ixL (sq_of (W1.old _ _ h1)) h9 ?_
  have e : ∀ i, i < 9 → [V.str (T [94]), V.str (T [94, 65]), V.str (T [94, 71, 40]), V.str (T [94, 71, 40, 49]), V.str (T [94, 71, 40, 49, 44]), V.str (T (cutL [94, 71, 40, 49, 50, 51, 52, 53] none (some 7))), V.str (T [94, 90, 40, 49, 44, 50, 44, 51, 44, 52]), V.str (T [94, 78, 40, 57, 57, 57, 57]), V.str (T [94, 88, 40, 48])].getD i .non = .str (T (broken i)) := by decide +kernel
  show gName 2 ([V.str (T [94]), V.str (T [94, 65]), V.str (T [94, 71, 40]), V.str (T [94, 71, 40, 49]), V.str (T [94, 71, 40, 49, 44]), V.str (T (cutL [94, 71, 40, 49, 50, 51, 52, 53] none (some 7))), V.str (T [94, 90, 40, 49, 44, 50, 44, 51, 44, 52]), V.str (T [94, 78, 40, 57, 57, 57, 57]), V.str (T [94, 88, 40, 48])].getD (m % 9) .non) _ _ _
  rw [e _ h9]
  have hb : ∀ i, i < 9 → (broken i).length ≤ 1000 := by decide +kernel
  walk_at "r"
  refine l_lenX (Nat.le_trans (hb _ h9) (by decide)) ?_
  walk_at "r"
  refine n_tupF W1 (sz rfl) fun p2 F2 H2 s2 h2 W2 => ?_
  exact kk p2 F2 H2 (s1.trans s2) h2 W2
theorem rd_written : RD N_written (t_written c) (sp_written c) := by
  rintro vs H Q E ⟨a, xs, ts, F, L, rfl, hs, hd, hf, hl, W, kk⟩
  unfold t_written
  walk_at "r"
  have hxl := dpAll_len hd
  rw [List.length_map] at hxl
  refine x_ilist' (W.gr.sqL hs) ?_
  refine x_forOk (F := F) (ItOk.list hs) (fun i σ H' => ∃ s2 s3 F', σ = [some (.ref a), some (.str (T (lawText (ts.take i)))), s2, s3] ∧ Same F F' ∧ Hold F' L H')
    (fun i σ H' _ ⟨_, _, F', _, s, W'⟩ => (Gr.of s).trans W'.gr) ⟨none, none, F, rfl, Same.refl F, W⟩ ?_ ?_
  · rintro i σ H' hi ⟨s2, s3, F', rfl, s, W'⟩
    have hi' : i < ts.length := by omega
    have hv := dpAll_get hd i (by simpa using hi')
    rw [getD_map (d := Tk.fin) hi'] at hv
    have hfew := hf _ (getD_mem (d := Tk.fin) hi')
    obtain ⟨b, hb, hvw⟩ := tk_view hv
    rw [hb]
    have hsofar : (lawText (ts.take i)).length ≤ 300000 := by
      have := lawText_len (ts := ts.take i) fun t ht => hf t (List.mem_of_mem_take ht)
      rw [List.length_take] at this
      omega
    have fin : ∀ (l : List Nat) F4 H4 sl, Same F' F4 → l = lawText (ts.take i) ++ (ts.getD i .fin).text → Hold F4 L H4 → ∃ s2 s3 F', [some (V.ref a), some (.str (T l)), some (.ref b), sl] = [some (V.ref a), some (.str (T (lawText (ts.take (i + 1))))), s2, s3] ∧ Same F F' ∧ Hold F' L H4 := by
      intro l F4 H4 sl s4 hl4 W4
      refine ⟨some (.ref b), sl, F4, ?_, s.trans s4, W4⟩
      rw [take_getD (d := Tk.fin) hi', hl4]
      have : lawText (ts.take i ++ [ts.getD i .fin]) = lawText (ts.take i) ++ (ts.getD i .fin).text := by simp [lawText]
      rw [this]
    walk_at "r"
    cases ht : ts.getD i .fin with
    | sign n =>
      rw [ht] at hvw fin
      refine l_ixT (W'.gr.sqT ((Gr.of s).sqT hvw)) rfl ?_
      walk_at "r"
      refine wF (decide_eq_false (by decide)) ?_
      walk_at "r"
      refine l_ixT (W'.gr.sqT ((Gr.of s).sqT hvw)) rfl ?_
      walk_at "r"
      refine wT (decide_eq_true rfl) ?_
      walk_at "r"
      refine l_ixT (W'.gr.sqT ((Gr.of s).sqT hvw)) rfl ?_
      walk_at "r"
      refine wD (fun h => ?_) (fun h => ?_)
      · have h94 : n = 94 := one1.mp h
        walk_at "r"
        refine l_addX (by simp; omega) ?_
        walk_at "r"
        exact fin _ F' H' _ (Same.refl F') (by subst h94; rfl) W'
      · have h94 : n ≠ 94 := fun z => h (one1.mpr z)
        walk_at "r"
        refine l_ixT (W'.gr.sqT ((Gr.of s).sqT hvw)) rfl ?_
        refine l_addX (by simp; omega) ?_
        walk_at "r"
        refine fin _ F' H' _ (Same.refl F') ?_ W'
        show _ = _ ++ (if n = 94 then [94, 94] else [n])
        rw [if_neg h94]
    | fin =>
      rw [ht] at hvw fin
      refine l_ixT (W'.gr.sqT ((Gr.of s).sqT hvw)) rfl ?_
      walk_at "r"
      refine wT (decide_eq_true rfl) ?_
      walk_at "r"
      refine l_addX (by simp; omega) ?_
      walk_at "r"
      exact fin _ F' H' _ (Same.refl F') rfl W'
    | act w ns =>
      rw [ht] at hvw fin hfew
      obtain ⟨q, h1, h2⟩ := hvw
      refine l_ixT (W'.gr.sqT ((Gr.of s).sqT h1)) rfl ?_
      walk_at "r"
      refine wF (decide_eq_false (by decide)) ?_
      walk_at "r"
      refine l_ixT (W'.gr.sqT ((Gr.of s).sqT h1)) rfl ?_
      walk_at "r"
      refine wF (decide_eq_false (by decide)) ?_
      walk_at "r"
      refine l_ixT (W'.gr.sqT ((Gr.of s).sqT h1)) rfl ?_
      walk_at "r"
      rw [isSmall_mem']
      refine w2 (fun hsm => ?_) (fun hsm => ?_)
      · walk_at "r"
        refine l_addX (by simp; omega) ?_
        walk_at "r"
        refine l_ixT (W'.gr.sqT ((Gr.of s).sqT h1)) rfl ?_
        refine l_addX (by simp; omega) ?_
        walk_at "r"
        refine fin _ F' H' _ (Same.refl F') ?_ W'
        show _ = _ ++ (if isSmall w then [94, w] else [94, w, 40] ++ (TL.joinL [44] (ns.map TL.numL) ++ [41]))
        rw [if_pos hsm]; simp
      · walk_at "r"
        refine l_addX (by simp; omega) ?_
        walk_at "r"
        refine l_ixT (W'.gr.sqT ((Gr.of s).sqT h1)) rfl ?_
        refine l_addX (by simp; omega) ?_
        walk_at "r"
        refine l_addX (by simp; omega) ?_
        refine x_nums (F := F') W' ((Gr.of s).sqT h2) hfew (by show 3 < 4; decide) (fun R hR => ?_) (fun F4 H4 s4 W4 => ?_)
        · walk_at "r"
          exact l_ixT (W'.gr.sqT ((Gr.of s).sqT h1)) rfl hR
        have hjl := joinL_len (sep := [44]) (b := 4) (ls := ns.map TL.numL) fun l hl => by obtain ⟨n, hn, rfl⟩ := List.mem_map.mp hl; exact numL_len4 (hfew.2 n hn)
        rw [List.length_map] at hjl
        have h4 : ns.length ≤ 4 := hfew.1
        have hl1 : ([44] : List Nat).length = 1 := rfl
        rw [hl1] at hjl
        refine l_addX (by simp; omega) ?_
        walk_at "r"
        refine l_addX (by simp; omega) ?_
        walk_at "r"
        refine fin _ F4 H4 _ s4 ?_ W4
        show _ = _ ++ (if isSmall w then [94, w] else [94, w, 40] ++ (TL.joinL [44] (ns.map TL.numL) ++ [41]))
        rw [if_neg (by rw [hsm]; decide)]
        simp
  · rintro σ H' ⟨s2, s3, F', rfl, s, W'⟩
    walk_at "r"
    rw [hxl, List.take_length]
    exact kk F' H' s W'
end
end Ss
/-! ## What is written is told again (plain) -/
namespace Ss
open PySem PySem.Spec PyProof.Rows L2
/-- a thing that is told so -/
def Tk.Good : Tk → Prop
  | .sign n => isSign n = true ∧ n ≠ 10
  | .fin => True
  | .act w ns => (isSmall w = true ∧ ns = []) ∨ (isGreat w = true ∧ ns.length ≤ 4 ∧ ∀ n ∈ ns, n ≤ 9999)
theorem Tk.Good.few {t : Tk} (h : t.Good) : t.Few := by
  cases t with
  | sign n => trivial
  | fin => trivial
  | act w ns =>
    rcases h with ⟨_, rfl⟩ | ⟨_, h⟩
    · exact ⟨by simp, by simp⟩
    · exact h
theorem read_some {r : Rdr} {n : Nat} {p : Pre} {ts : List Tk} (h : r.pre.step n = some (p, ts)) : r.read n = (⟨p, r.lost⟩, ts) := by
  unfold Rdr.read
  have hp : r.pre ≠ .no := fun z => by rw [z] at h; cases h
  rw [if_neg hp, h]
theorem feed_cons (r : Rdr) (n : Nat) (l : List Nat) : r.feed (n :: l) = ((r.read n).1.feed l |>.1, (r.read n).2 ++ ((r.read n).1.feed l).2) := rfl
theorem feed_nil (r : Rdr) : r.feed [] = (r, []) := rfl
theorem step_fig {g : Nat} {ps : List (List Nat)} {la : List Nat} {n : Nat} (hn : isFig n = true) (hl : la.length < 4) : (Pre.op g ps la).step n = some (.op g ps (la ++ [n]), []) := by
  unfold Pre.step
  dsimp only
  rw [if_pos hn, if_pos hl]
theorem feed_figs {g : Nat} {ps : List (List Nat)} {k : Nat} : ∀ {l la : List Nat} (m : List Nat), (∀ x ∈ l, isFig x = true) → la.length + l.length ≤ 4 → Rdr.feed ⟨.op g ps la, k⟩ (l ++ m) = Rdr.feed ⟨.op g ps (la ++ l), k⟩ m
  | [], la, m, _, _ => by simp
  | n :: l, la, m, h, hl => by
    rw [List.length_cons] at hl
    rw [List.cons_append, feed_cons, read_some (step_fig (h n List.mem_cons_self) (by omega))]
    dsimp only
    rw [feed_figs (l := l) (la := la ++ [n]) m (fun x hx => h x (List.mem_cons_of_mem _ hx)) (by rw [List.length_append]; simp; omega)]
    simp
theorem feed_parts {g k : Nat} : ∀ {parts : List (List Nat)} {ps : List (List Nat)}, parts ≠ [] → (∀ p ∈ parts, p ≠ [] ∧ figsOk p) → ps.length + parts.length ≤ 4 →
    Rdr.feed ⟨.op g ps [], k⟩ (TL.joinL [44] parts ++ [41]) = (⟨.no, k⟩, [.act g ((ps ++ parts).map NumText.digitsVal)])
  | [], _, h, _, _ => absurd rfl h
  | [p], ps, _, h, hl => by
    have hp := h p List.mem_cons_self
    show Rdr.feed ⟨.op g ps [], k⟩ (p ++ [41]) = _
    rw [feed_figs [41] hp.2.2 (by simpa using hp.2.1), List.nil_append, feed_cons, read_some (p := .no) (ts := [.act g ((ps ++ [p]).map NumText.digitsVal)])]
    · rfl
    · unfold Pre.step
      dsimp only
      rw [if_neg (by decide), if_neg (by decide), if_pos ⟨rfl, .inl hp.1⟩, if_neg (fun z => hp.1 z.2)]
  | p :: q :: r, ps, _, h, hl => by
    have hp := h p List.mem_cons_self
    rw [List.length_cons, List.length_cons] at hl
    have e : TL.joinL [44] (p :: q :: r) ++ [41] = p ++ (44 :: (TL.joinL [44] (q :: r) ++ [41])) := by
      show (p ++ ([44] ++ TL.joinL [44] (q :: r))) ++ [41] = _
      simp
    rw [e, feed_figs _ hp.2.2 (by simpa using hp.2.1), List.nil_append, feed_cons, read_some (p := .op g (ps ++ [p]) []) (ts := [])]
    · dsimp only
      rw [feed_parts (parts := q :: r) (ps := ps ++ [p]) (by simp) (fun x hx => h x (List.mem_cons_of_mem _ hx)) (by simp; omega)]
      simp
    · unfold Pre.step
      dsimp only
      rw [if_neg (by decide), if_pos rfl, if_pos ⟨hp.1, by omega⟩]
theorem num_figs (n : Nat) (h : n ≤ 9999) : TL.numL n ≠ [] ∧ figsOk (TL.numL n) := ⟨TL.numL_ne n, numL_len4 h, fun x hx => by
  have := TL.numL_digits n x hx
  unfold isFig
  simp
  omega⟩
theorem feed_good {t : Tk} (h : t.Good) (k : Nat) : Rdr.feed ⟨.no, k⟩ t.text = (⟨.no, k⟩, [t]) := by
  cases t with
  | sign n =>
    show Rdr.feed ⟨.no, k⟩ (if n = 94 then [94, 94] else [n]) = _
    by_cases h94 : n = 94
    · subst h94; rfl
    · rw [if_neg h94, feed_cons]
      have e : Rdr.read ⟨.no, k⟩ n = (⟨.no, k⟩, [.sign n]) := by
        unfold Rdr.read
        rw [if_pos rfl]
        unfold plain
        rw [if_neg h94, if_neg h.2]
      rw [e]; rfl
  | fin => rfl
  | act w ns =>
    show Rdr.feed ⟨.no, k⟩ (if isSmall w then [94, w] else [94, w, 40] ++ (TL.joinL [44] (ns.map TL.numL) ++ [41])) = _
    rcases h with ⟨h1, rfl⟩ | ⟨h1, h2, h3⟩
    · rw [if_pos h1]
      have e : Rdr.feed ⟨.no, k⟩ [94, w] = (Rdr.feed ⟨.hat, k⟩ [w]) := rfl
      rw [e, feed_cons, read_some (p := .no) (ts := [.act w []])]
      · rfl
      · unfold Pre.step
        dsimp only
        rw [if_neg (fun z => by rw [z] at h1; exact absurd h1 (by decide)), if_pos h1]
    · have hns : isSmall w = false := by
        unfold isGreat at h1
        unfold isSmall
        simp at h1 ⊢
        omega
      rw [if_neg (by rw [hns]; decide)]
      have e : Rdr.feed ⟨.no, k⟩ ([94, w, 40] ++ (TL.joinL [44] (ns.map TL.numL) ++ [41])) = Rdr.feed ⟨.op w [] [], k⟩ (TL.joinL [44] (ns.map TL.numL) ++ [41]) := by
        have e1 : Rdr.feed ⟨.no, k⟩ ([94, w, 40] ++ (TL.joinL [44] (ns.map TL.numL) ++ [41])) = Rdr.feed ⟨.hat, k⟩ (w :: 40 :: (TL.joinL [44] (ns.map TL.numL) ++ [41])) := rfl
        rw [e1, feed_cons, read_some (p := .cap w) (ts := [])]
        · rw [feed_cons, read_some (p := .op w [] []) (ts := [])]
          · rfl
          · unfold Pre.step; dsimp only; rw [if_pos rfl]
        · unfold Pre.step
          dsimp only
          rw [if_neg (fun z => by rw [z] at h1; exact absurd h1 (by decide)), if_neg (by rw [hns]; decide), if_pos h1]
      rw [e]
      by_cases hn : ns = []
      · subst hn; rfl
      · rw [feed_parts (by simpa using hn) (fun p hp => by obtain ⟨n, hn, rfl⟩ := List.mem_map.mp hp; exact num_figs n (h3 n hn)) (by simpa using h2)]
        rw [List.nil_append, List.map_map]
        have : ns.map (NumText.digitsVal ∘ TL.numL) = ns := by
          refine (List.map_congr_left fun n _ => TL.numL_val n).trans ?_
          exact List.map_id _
        rw [this]
theorem feed_text {ts : List Tk} (h : ∀ t ∈ ts, t.Good) (k : Nat) : Rdr.feed ⟨.no, k⟩ (lawText ts) = (⟨.no, k⟩, ts) := by
  unfold lawText
  induction ts with
  | nil => rfl
  | cons t ts ih =>
    rw [List.flatMap_cons, feed_app, feed_good (h t List.mem_cons_self)]
    dsimp only
    rw [ih fun x hx => h x (List.mem_cons_of_mem _ hx)]
    rfl
/-- all signs of it are signs -/
theorem text_signs {t : Tk} (h : t.Good) : ∀ x ∈ t.text, isSign x = true := by
  have fig : ∀ n x, x ∈ TL.numL n → isSign x = true := fun n x hx => by
    have := TL.numL_digits n x hx
    unfold isSign
    simp
    omega
  have join : ∀ (ls : List (List Nat)), (∀ l ∈ ls, ∀ x ∈ l, isSign x = true) → ∀ x ∈ TL.joinL [44] ls, isSign x = true := by
    intro ls
    induction ls with
    | nil => intro _ x hx; cases hx
    | cons l ls ih =>
      intro hl x hx
      cases ls with
      | nil => exact hl l List.mem_cons_self x hx
      | cons m ls =>
        have hx' : x ∈ l ++ ([44] ++ TL.joinL [44] (m :: ls)) := hx
        rcases List.mem_append.mp hx' with hx | hx
        · exact hl l List.mem_cons_self x hx
        · rcases List.mem_append.mp hx with hx | hx
          · rw [List.mem_singleton.mp hx]; decide
          · exact ih (fun y hy => hl y (List.mem_cons_of_mem _ hy)) x hx
  cases t with
  | sign n =>
    intro x hx
    have hx' : x ∈ (if n = 94 then [94, 94] else [n]) := hx
    split at hx'
    · simp at hx'; rw [hx']; decide
    · rw [List.mem_singleton.mp hx']; exact h.1
  | fin => intro x hx; rw [List.mem_singleton.mp hx]; decide
  | act w ns =>
    intro x hx
    have hx' : x ∈ (if isSmall w then [94, w] else [94, w, 40] ++ (TL.joinL [44] (ns.map TL.numL) ++ [41])) := hx
    have hw : isSign w = true := by
      rcases h with ⟨h1, _⟩ | ⟨h1, _⟩
      · unfold isSmall at h1; unfold isSign; simp at h1 ⊢; omega
      · unfold isGreat at h1; unfold isSign; simp at h1 ⊢; omega
    split at hx'
    · rcases List.mem_cons.mp hx' with rfl | hx
      · decide
      · rw [List.mem_singleton.mp hx]; exact hw
    · rcases List.mem_append.mp hx' with hx | hx
      · rcases List.mem_cons.mp hx with rfl | hx
        · decide
        · rcases List.mem_cons.mp hx with rfl | hx
          · exact hw
          · rw [List.mem_singleton.mp hx]; decide
      · rcases List.mem_append.mp hx with hx | hx
        · exact join _ (fun l hl y hy => by obtain ⟨n, _, rfl⟩ := List.mem_map.mp hl; exact fig n y hy) x hx
        · rw [List.mem_singleton.mp hx]; decide
theorem lawText_signs {ts : List Tk} (h : ∀ t ∈ ts, t.Good) : ∀ x ∈ lawText ts, isSign x = true := fun x hx => by
  obtain ⟨t, ht, hx⟩ := List.mem_flatMap.mp hx
  exact text_signs (h t ht) x hx
/-! ### the laws' draws are good -/
theorem one_good (m : Nat) : (lawOne m).Good := by
  unfold lawOne
  split
  · have : ∀ i, i < 15 → isSign (oneSigns.getD i 0) = true ∧ oneSigns.getD i 0 ≠ 10 := by decide
    exact this _ (Nat.mod_lt _ (by decide))
  · split
    · trivial
    · split
      · have : ∀ i, i < 16 → isSmall (oneSmall.getD i 0) = true := by decide
        exact .inl ⟨this _ (Nat.mod_lt _ (by decide)), rfl⟩
      · have : ∀ i, i < 12 → isGreat (oneGreat.getD i 0) = true := by decide
        have hf := one_few m
        unfold lawOne at hf
        rw [if_neg (by assumption), if_neg (by assumption), if_neg (by assumption)] at hf
        exact .inr ⟨this _ (Nat.mod_lt _ (by decide)), hf⟩
theorem step_good (m j : Nat) : ∀ t ∈ lawStep m j, t.Good := by
  intro t ht
  unfold lawStep at ht
  rcases List.mem_append.mp ht with h | h
  · split at h
    · obtain ⟨n, _, rfl⟩ := List.mem_map.mp h
      have : ∀ i, i < 4 → isSign (runSigns.getD i 0) = true ∧ runSigns.getD i 0 ≠ 10 := by decide
      exact this _ (Nat.mod_lt _ (by decide))
    · cases h
  · rw [List.mem_singleton.mp h]; exact one_good _
theorem row_good (m many : Nat) : ∀ t ∈ lawRow m many, t.Good := by
  intro t ht
  obtain ⟨j, _, h⟩ := List.mem_flatMap.mp ht
  exact step_good m j t h
theorem lawText_app (a b : List Tk) : lawText (a ++ b) = lawText a ++ lawText b := by simp [lawText]
theorem step_text_len (m j : Nat) : (lawText (lawStep m j)).length ≤ 38 := by
  unfold lawStep
  rw [lawText_app, List.length_append]
  have h1 : (lawText [lawOne (drawn m j / 8)]).length ≤ 24 := by
    have := Tk.text_len (one_few (drawn m j / 8))
    simpa [lawText] using this
  have h2 : ∀ (l : List Nat), (lawText (l.map fun n => Tk.sign (runSigns.getD ((drawn m j / 8 + n) % 4) 0))).length ≤ l.length := by
    intro l
    induction l with
    | nil => simp [lawText]
    | cons n l ih =>
      have e : lawText ((n :: l).map fun n => Tk.sign (runSigns.getD ((drawn m j / 8 + n) % 4) 0)) = (Tk.sign (runSigns.getD ((drawn m j / 8 + n) % 4) 0)).text ++ lawText (l.map fun n => Tk.sign (runSigns.getD ((drawn m j / 8 + n) % 4) 0)) := by simp [lawText]
      rw [e, List.length_append, List.length_cons]
      have h3 : ∀ i, i < 4 → (Tk.sign (runSigns.getD i 0)).text.length = 1 := by decide
      rw [h3 _ (Nat.mod_lt _ (by decide))]
      omega
  split
  · have := h2 (List.range (drawn m j / 64 % 15))
    rw [List.length_range] at this
    omega
  · simp [lawText] at h1 ⊢; omega
theorem row_text_len (m many : Nat) : (lawText (lawRow m many)).length ≤ 38 * many := by
  have h : ∀ l : List Nat, (lawText (l.flatMap (lawStep m))).length ≤ 38 * l.length := by
    intro l
    induction l with
    | nil => simp [lawText]
    | cons j l ih =>
      rw [List.flatMap_cons, lawText_app, List.length_append, List.length_cons, Nat.mul_succ]
      have := step_text_len m j
      omega
  have := h (List.range (m % (many + 1)))
  rw [List.length_range] at this
  have h2 : m % (many + 1) ≤ many := by have := Nat.mod_lt m (show 0 < many + 1 by omega); omega
  exact Nat.le_trans this (Nat.mul_le_mul_left _ h2)
theorem Tk.sh {t : Tk} (h : t.Good) : Sh 2 t.data := by
  have small : ∀ x, isSign x = true → x < 1114112 := fun x hx => by unfold isSign at hx; simp at hx; omega
  cases t with
  | sign n =>
    refine (Sh.tup (k := 0) fun d hd => ?_).mono (by decide)
    rcases List.mem_cons.mp hd with rfl | hd
    · exact .str (by decide)
    · rw [List.mem_singleton.mp hd]; exact .str (by simpa using small n h.1)
  | fin =>
    refine (Sh.tup (k := 0) fun d hd => ?_).mono (by decide)
    rw [List.mem_singleton.mp hd]; exact .str (by decide)
  | act w ns =>
    have hw : w < 1114112 := by
      rcases h with ⟨h1, _⟩ | ⟨h1, _⟩
      · unfold isSmall at h1; simp at h1; omega
      · unfold isGreat at h1; simp at h1; omega
    refine Sh.tup (k := 1) fun d hd => ?_
    rcases List.mem_cons.mp hd with rfl | hd
    · exact .str (by decide)
    · rcases List.mem_cons.mp hd with rfl | hd
      · exact .str (by simpa using hw)
      · rw [List.mem_singleton.mp hd]
        exact .tup fun e he => by obtain ⟨n, _, rfl⟩ := List.mem_map.mp he; exact .int
theorem toks_sh {ts : List Tk} (h : ∀ t ∈ ts, t.Good) : Sh 3 (.list (ts.map Tk.data)) := .lst fun d hd => by
  obtain ⟨t, ht, rfl⟩ := List.mem_map.mp hd
  exact Tk.sh (h t ht)
end Ss
/-! ## Part 9: what the screens need beside -/
namespace Ss
open PySem PySem.Spec PyProof.Rows L2
/-! ### a field as a target -/
def gAttr (K : PySem.W.Frag) (ta : TE) (f : Str) : TG := fun v σ H Q => ta σ H fun x H1 => aPut K x v f H1 (Q σ)
theorem pg_attr {X : Cx} {o : Expr} {ta : TE} {f : Str} {pos : Pos} (ha : PE X o ta) : PG X (.Attribute o f pos) (gAttr X.K ta f) := by
  refine ⟨fun pins s σ H v u Q I r h => ?_⟩
  rw [assign_Attribute]
  refine wpAny_bind (wpAny_holding (thn (ha.run pins s σ H _ I h) fun ov s1 ⟨x, H1, I1, r1, a, C, dx, fs, ex, ea, c, n, l, q⟩ => ?_))
  subst ex
  obtain rfl : ov = Value.ref a := r1
  refine wpAny_bind (wpAny_standAt (wpAny_bind (wpAny_holding (setattr_ok I1 ea c n l r fun s3 I3 => ?_))))
  exact wpAny_release ⟨σ, _, I3, q⟩
/-! ### a method of a tuple that is not a module's -/
def tTM (K : PySem.W.Frag) (r : V → List V → Hp → VK → Prop) (to : TE) (t : TA) : TE := fun σ H Q => to σ H fun x H1 => (∃ a xs, x = .ref a ∧ SqT K H1 a xs) ∧ t σ H1 fun xs H2 => r x xs H2 Q
def u_tix (K : PySem.W.Frag) : V → List V → Hp → VK → Prop := fun x xs H Q => ∃ p, ∃ ys : List Str, ∃ z j, x = .ref p ∧ xs = [.str z] ∧ SqT K H p (ys.map V.str) ∧ ys[j]? = some z ∧ (∀ m, m < j → ys[m]? ≠ some z) ∧ Q (.int (j : Nat)) H
theorem pe_tix {X : Cx} {e : Expr} {es es0 : List Expr} {t0 t : TA} {x1} {pos0 apos cpos : Pos} (h0 : PA X es0 t0) (ha : PA X (e :: es) t)
    (hbase : attributeBase (.Tuple es0 x1 pos0) "index" X.env (eval (.Tuple es0 x1 pos0) X.env) = eval (.Tuple es0 x1 pos0) X.env := by rfl)
    (hfew : ((backTo cpos (starEach (e :: es) X.env)).all (fun x => !x.1) && (backToKw cpos (keywordEach [] X.env)).all (fun x => x.1.isSome)
      && decide ((e :: es).length + ([] : List Keyword).length + (if ([] : List Keyword).isEmpty then 0 else 1) < 30)) = true := by rfl)
    (hline : (apos.endLine == cpos.line) = true := by rfl) (hs : starEach (e :: es) X.env = (false, eval e X.env) :: starEach es X.env := by rfl) (hplain : (backTo cpos (starEach es X.env)).any (·.1) = false := by rfl) :
    PE X (.Call (.Attribute (.Tuple es0 x1 pos0) "index" apos) (e :: es) [] cpos) (tTM X.K (u_tix X.K) (tTup t0) t) := by
  refine ⟨fun pins s σ H Q I h => ?_⟩
  refine wpAny_Call_method_late hbase hfew hline rfl (wpAny_Tuple_spliced (thn (h0.run pos0 pins s σ H _ I h) fun us s1 ⟨xs, H1, I1, r, z, q⟩ => ⟨by rw [← r.length]; exact z, ?_⟩))
  have hf : H1 s1.heap.objs.size = none := I1.hok.fresh (Nat.le_refl _)
  have I2 : Inv X pins σ (upd H1 s1.heap.objs.size (.tup xs)) { s1 with heap := s1.heap.push { cls := .type "tuple", data := .seq us.toArray } } := I1.laid (t' := s1.toks) (fun b u e => Heap.get?_push_of_some _ e) (Nat.le_refl _) ⟨z, us, r, ⟨_, Heap.get?_push_size _ rfl, rfl, _, rfl⟩⟩
  refine ⟨"tuple", "tuple.index", PySem.F.plainAttrs_tuple, PySem.F.slot_tuple_index, PySem.F.type_tuple_index, ⟨_, Heap.get?_push_size _ rfl, rfl⟩, fun b eb => by cases eb; exact ⟨_, Heap.get?_push_size _ rfl, rfl⟩, ?_⟩
  have hA := ha.run cpos pins _ σ _ _ I2 (q _ hf).2
  rw [hs] at hA ⊢
  refine Calls.callWith_builtin (by show (false || (backTo cpos (starEach es X.env)).any (·.1)) = false; rw [hplain] <;> rfl) (Calls.evalArgs_plain ?_)
  exact thn hA fun us s2 ⟨vs, H2, I3, r2, q2⟩ => mt_tup_index pins s2 σ H2 (.ref s1.heap.objs.size) vs (.ref s1.heap.objs.size) us Q I3 rfl r2 q2
section
variable {K : PySem.W.Frag} {σ : L2.St} {H F : Hp} {L : List (Addr × HO)} {Q : VK} {to ti ta : TE} {t : TA} {v x y : V} {p q : Addr} {xs ys : List V} {lo hi : Option Int} {nx : L2.St → Hp → Prop} {QH : Hp → Prop}
theorem x_gattr {f : Str} (h : ta σ H fun x H1 => aPut K x v f H1 (nx σ)) : gAttr K ta f v σ H nx := h
theorem x_gsub {r : TSet} (h : to σ H fun o H1 => ti σ H1 fun i H2 => r o i v H2 fun H3 => nx σ H3) : gSub to ti r v σ H nx := h
theorem x_setL {n : Nat} (h : H p = some (.lst xs)) (hn : n < xs.length) (q : QH (upd H p (.lst (xs.set n v)))) : rSetL (.ref p) (.int (n : Int)) v H QH := by
  refine ⟨p, xs, n, n, rfl, rfl, h, ?_, q⟩
  unfold ixN
  rw [if_pos (by omega), if_pos (by omega)]
  simp
theorem x_tm {r : V → List V → Hp → VK → Prop} (h : to σ H fun x H1 => (∃ a xs, x = .ref a ∧ SqT K H1 a xs) ∧ t σ H1 fun xs H2 => r x xs H2 Q) : tTM K r to t σ H Q := h
/-- part of a tuple, wherever it lies -/
theorem n_slT (W : Hold F L H) (hp : SqT K F p xs) (k : ∀ (r : Addr) (F' H' : Hp), Same F F' → SqT K F' r (cutV xs lo hi) → Hold F' L H' → Q (.ref r) H') : uSl K (.ref p) lo hi H Q := by
  refine l_slT (W.gr.sqT hp) (fun h => ?_) fun _ => newF W fun r F' H' s h W' _ => k r F' H' s (st_of h) W'
  refine k p F H (Same.refl F) ?_ W
  have e : cutV xs lo hi = xs := by
    unfold cutV
    rw [h.1, h.2, List.drop_zero, Nat.sub_zero, List.take_length]
  rw [e]; exact hp
theorem n_addT (W : Hold F L H) (hp : SqT K F p xs) (hq : SqT K F q ys) (hl : xs.length + ys.length ≤ sizeLine) (k : ∀ (r : Addr) (F' H' : Hp), Same F F' → SqT K F' r (xs ++ ys) → Hold F' L H' → Q (.ref r) H') : uAdd K (.ref p) (.ref q) H Q := by
  refine l_addT (W.gr.sqT hp) (W.gr.sqT hq) hl (fun h => ?_) (fun _ h => ?_) fun _ _ => newF W fun r F' H' s h W' _ => k r F' H' s (st_of h) W'
  · subst h; exact k q F H (Same.refl F) hq W
  · subst h; exact k p F H (Same.refl F) (by rw [List.append_nil]; exact hp) W
end
/-- one's own are set down -/
theorem Hold.freezeL {F H : Hp} {L : List (Addr × HO)} : ∀ (l : List (Addr × HO)), Hold F (l ++ L) H → ∃ F', Same F F' ∧ Hold F' L H ∧ ∀ x ∈ l, F' x.1 = some x.2
  | [], W => ⟨F, Same.refl F, W, fun _ h => (nomatch h)⟩
  | (p, o) :: l, W => by
    have W' : Hold F ((p, o) :: (l ++ L)) H := W
    obtain ⟨F', s, W2, h⟩ := Hold.freezeL l W'.freeze
    refine ⟨F', W'.freezeS.trans s, W2, fun x hx => ?_⟩
    rcases List.mem_cons.mp hx with rfl | hx
    · exact s _ _ upd_same
    · exact h x hx
/-- A COMPREHENSION that makes own things: Pi tells of the items so far, of F and of one's own -/
theorem x_lcG {σ : L2.St} {F H : Hp} {L : List (Addr × HO)} {Q : VK} {J : It} {n : Nat} {item : Nat → V} {g : TG} {te : TE} {vs : List Nat} (ok : ItOk J F n item) (W : Hold F L H) (hn : n ≤ 100000) (Pi : Nat → List V → Hp → List (Addr × HO) → Prop) (h0 : Pi 0 [] F L)
    (step : ∀ (d : Addr × HO) i ys F' L' H' (QQ : VK), i < n → Same F F' → Pi i ys F' L' → Hold F' (L' ++ [d]) H' → (∀ y F4 L4 H4, Same F' F4 → Hold F4 (L4 ++ [d]) H4 → Pi (i + 1) (ys ++ [y]) F4 L4 → QQ y H4) → g (item i) (wipe σ vs) H' fun σ2 H2 => wipe σ2 vs = wipe σ vs ∧ te σ2 H2 QQ)
    (gm : ∀ x σ H (Q Q' : L2.St → Hp → Prop), (∀ σ' H', Q σ' H' → Q' σ' H') → g x σ H Q → g x σ H Q')
    (dn : ∀ (D : Addr) (ys : List V) (F' H' : Hp) (L' : List (Addr × HO)), Same F F' → ys.length = n → Pi n ys F' L' → Hold F' ((D, .lst ys) :: L') H' → Q (.ref D) H') : aLc J g tYes te vs σ H Q := by
  intro D hD
  refine ⟨fun i m H' => m = n - i ∧ i ≤ n ∧ ∃ ys F' L', Same F F' ∧ ys.length = i ∧ Pi i ys F' L' ∧ Hold F' ((D, .lst ys) :: L') H', ⟨n, by simp, Nat.zero_le _, [], F, L, Same.refl F, rfl, h0, W.make hD⟩, ?_⟩
  rintro i m H1 ⟨rfl, hi, ys, F1, L1, s1, hl, hv, W1⟩
  have q : Gr F H1 := (Gr.of s1).trans W1.gr
  by_cases hlt : i < n
  · refine .inr ⟨ok.go i H1 q hlt, fun H' => ∃ ys F' L', Same F F' ∧ ys.length = i + 1 ∧ Pi (i + 1) ys F' L' ∧ Hold F' ((D, .lst ys) :: L') H', fun H' p' => ⟨n - (i + 1), by omega, rfl, hlt, p'⟩, fun x H' y => ?_⟩
    obtain ⟨rfl, rfl⟩ := ok.yld i H1 x H' q hlt y
    have W2 : Hold F1 (L1 ++ [(D, .lst ys)]) H' := W1.perm (List.perm_append_singleton _ _).symm
    refine gm _ _ _ _ _ (fun σ2 H2 z => ⟨z.1, ?_⟩) (step (D, .lst ys) i ys F1 L1 H' (fun y H4 => ∃ acc, H4 D = some (.lst acc) ∧ acc.length < sizeLine ∧ (∃ ys F' L', Same F F' ∧ ys.length = i + 1 ∧ Pi (i + 1) ys F' L' ∧ Hold F' ((D, .lst ys) :: L') (upd H4 D (.lst (acc ++ [y]))))) hlt s1 hv W2 ?_)
    · exact x_yes (wT rfl z.2)
    · intro v F4 L4 H4 s4 W4 hv4
      have W5 : Hold F4 ((D, .lst ys) :: L4) H4 := W4.perm (List.perm_append_singleton _ _)
      exact ⟨ys, W5.get0, szlt (by omega), ys ++ [v], F4, L4, fun a o e => s4 a o (s1 a o e), by rw [List.length_append, hl]; rfl, hv4, W5.put0⟩
  · have e : i = n := by omega
    subst e
    exact .inl ⟨ok.stop H1 q, dn D ys F1 H1 L1 s1 hl hv W1⟩
/-- w in ('a', 'b', ..) -/
theorem inV_str (w : Nat) (l : List Nat) : inV (.str (T [w])) (l.map fun n => V.str (T [n])) = decide (w ∈ l) := by
  unfold inV
  rw [List.any_map, Bool.eq_iff_iff, List.any_eq_true, decide_eq_true_eq]
  constructor
  · rintro ⟨n, hn, h⟩
    have h' : decide (T [n] = T [w]) = true := h
    rw [decide_eq_true_eq, T_inj] at h'
    have : n = w := by simpa using h'
    rw [← this]; exact hn
  · intro h
    exact ⟨w, h, by show decide (T [w] = T [w]) = true; exact decide_eq_true rfl⟩
theorem flat_str (l : List Nat) : (l.map fun n => V.str (T [n])).all flatV = true := by
  rw [List.all_map]; exact List.all_eq_true.mpr fun _ _ => rfl
theorem l_inC {K : PySem.W.Frag} {H : Hp} {Q : VK} {p : Addr} {w : Nat} (l : List Nat) (h : SqT K H p (l.map fun n => V.str (T [n]))) (q : Q (.bl (decide (w ∈ l))) H) : uIn K (.str (T [w])) (.ref p) H Q :=
  l_inT (.inr h) rfl (flat_str l) (by rw [inV_str]; exact q)
theorem mul_T (l : List Nat) (k : Nat) : Txt.mul (T l) (k : Nat) = T (List.replicate k l).flatten := by
  unfold Txt.mul
  by_cases h1 : ((k : Nat) : Int) < 1
  · rw [if_pos h1, show k = 0 by omega]; rfl
  rw [if_neg h1]
  have fold : ∀ (n : Nat) (a : Array Nat), (List.replicate n (T l).cps).foldl (· ++ ·) a = (a.toList ++ (List.replicate n l).flatten).toArray := fun n => by
    induction n with
    | zero => intro a; simp
    | succ n ih =>
      intro a
      rw [List.replicate_succ, List.foldl_cons, ih, List.replicate_succ, List.flatten_cons]
      simp
  split
  · rename_i h
    rw [Bool.or_eq_true] at h
    rcases h with h | h
    · have : k = 1 := by simp at h; omega
      subst this; simp
    · have hl : l.length = 0 := by rw [← T_len]; simpa using h
      rw [List.length_eq_zero_iff.mp hl]
      have e : (List.replicate k ([] : List Nat)).flatten = [] := by
        rw [List.flatten_eq_nil_iff]; exact fun x hx => (List.mem_replicate.mp hx).2
      rw [e]
  · show Str.mk _ = Str.mk _
    rw [fold, Int.toNat_natCast]; simp
/-- a text so many times -/
theorem l_mulX {K : PySem.W.Frag} {H : Hp} {Q : VK} {l : List Nat} {k : Nat} (hk : k ≤ 100000) (hl : l.length ≤ 100) (h : Q (.str (T (List.replicate k l).flatten)) H) : uMul K (.str (T l)) (.int (k : Nat)) H Q :=
  l_mulS (by omega) (by omega) (by rw [T_len]; exact hl) (by rw [mul_T]; exact h)
end Ss
/-! ## the row's evaluation, ahead of all else -/
namespace Ss
open PySem PySem.Spec PyProof.Rows L2
def names4 : List Str := ["BadPage", "BadPlace", "BadSize", "BadText"]
def names7 : List Str := ["BadPage", "BadPlace", "BadSize", "BadText", "BadPane", "BadTick", "Nothing"]
def oneBadB (K : PySem.W.Frag) (D : Addr) : Bool :=
  (PySem.W.findIn K (.ref D) "__getattribute__" == some (some (.builtin "BaseException.__getattribute__"))) && (PySem.W.findIn K (.ref D) "__getattr__" == some none) && (PySem.W.subIn K (.ref D) (.type "BaseException") == some true) && PySem.W.hasDictIn K D &&
  (PySem.W.findIn K (.ref D) "__class__" == some (some (.builtin "object.__class__"))) && (PySem.W.specialIn K (.builtin "object.__class__") "__get__" == some (some (.builtin "getset_descriptor.__get__"))) && (PySem.W.takesIn K (.builtin "object.__class__") == some true) && (PySem.W.mroIn K D (.type "object") == some true)
def badsB (K : PySem.W.Frag) (names : List Str) : Bool := names.all fun x => oneBadB K (He.ga K x) && (PySem.W.kitOne K (.ref (He.ga K x)) (.type "ValueError") == some true) && (PySem.W.exmOne K (.ref (He.ga K x)) (.ref (He.ga K "ScreenError")) == some true) &&
  names.all fun y => PySem.W.kitOne K (.ref (He.ga K x)) (.ref (He.ga K y)) == some (decide (y = x))
def top (i : Nat) : Stmt := PySem.Challenge.pw_steerscreen_k61_tapes_refused.main.body.getD i (.Pass ⟨0, 0, 0, 0⟩)
abbrev st_is_sign : Stmt := top 19
abbrev st_need_text : Stmt := top 20
abbrev st_Reader_init : Stmt := inClass (top 21) 0
abbrev st_Reader_feed : Stmt := inClass (top 21) 3
abbrev st_Reader_plain : Stmt := inClass (top 21) 4
abbrev st_Reader_read : Stmt := inClass (top 21) 5
abbrev st_Reader_can_go_on : Stmt := inClass (top 21) 6
abbrev st_Reader_whole : Stmt := inClass (top 21) 7
abbrev st_is_count : Stmt := top 27
abbrev st_need : Stmt := top 28
abbrev st_is_pen : Stmt := top 29
abbrev st_is_cell : Stmt := top 30
abbrev st_need_page : Stmt := top 31
abbrev st_changes : Stmt := top 32
abbrev st_need_size : Stmt := top 39
abbrev st_Row_init : Stmt := inClass (top 40) 0
abbrev st_blank_row : Stmt := top 41
abbrev st_Screen_init : Stmt := inClass (top 42) 0
abbrev st_Screen_begin : Stmt := inClass (top 42) 1
abbrev st_Screen_page : Stmt := inClass (top 42) 3
abbrev st_Screen_cursor : Stmt := inClass (top 42) 6
abbrev st_Screen_feed : Stmt := inClass (top 42) 9
abbrev st_Screen_do : Stmt := inClass (top 42) 10
abbrev st_Screen_stand : Stmt := inClass (top 42) 11
abbrev st_Screen_put : Stmt := inClass (top 42) 12
abbrev st_Screen_roll : Stmt := inClass (top 42) 13
abbrev st_Screen_roll_down : Stmt := inClass (top 42) 14
abbrev st_Screen_cut_off : Stmt := inClass (top 42) 15
abbrev st_Screen_down : Stmt := inClass (top 42) 16
abbrev st_Screen_up : Stmt := inClass (top 42) 17
abbrev st_Screen_small : Stmt := inClass (top 42) 18
abbrev st_Screen_erase : Stmt := inClass (top 42) 19
abbrev st_Screen_great : Stmt := inClass (top 42) 20
abbrev st_Screen_one : Stmt := inClass (top 42) 21
abbrev st_Screen_take_rows : Stmt := inClass (top 42) 22
abbrev st_Screen_shift : Stmt := inClass (top 42) 23
abbrev st_Tape_init : Stmt := inClass (top 47) 0
abbrev st_Tape_record : Stmt := inClass (top 47) 1
abbrev st_Tape_undo : Stmt := inClass (top 47) 2
abbrev st_Tape_length : Stmt := inClass (top 47) 4
abbrev st_Tape_records : Stmt := inClass (top 47) 5
abbrev st_Tape_need_tick : Stmt := inClass (top 47) 6
abbrev st_Tape_screen_behind : Stmt := inClass (top 47) 7
abbrev st_Tape_page_at : Stmt := inClass (top 47) 8
abbrev st_Tape_cursor_at : Stmt := inClass (top 47) 9
abbrev st_Tape_changes_at : Stmt := inClass (top 47) 10
abbrev st_Tape_first_with : Stmt := inClass (top 47) 11
abbrev st__law_cell : Stmt := top 49
abbrev st__law_drawn : Stmt := top 50
abbrev st__law_told : Stmt := top 52
abbrev st__law_word : Stmt := top 51
abbrev st_law : Stmt := top 53
def fa : List He.Fa := [.free "ord", .free "isinstance", .free "str", .free "len", .free "all", .free "tuple", .free "int", .free "bool", .free "zip", .free "list", .free "enumerate", .free "range", .free "max", .free "min", .free "sum", .free "ValueError", .int "BARRED" 37, .str "GAP" ⟨#[10]⟩, .int "MOST_TEXT" 4000, .str "SMALL" ⟨#[97, 98, 99, 100, 101, 102, 103, 104, 105, 106, 107, 108, 109, 110, 111, 112, 113, 114, 115, 116, 117, 118, 119, 120, 121, 122]⟩, .str "GREAT" ⟨#[65, 66, 67, 68, 69, 70, 71, 72, 73, 74, 75, 76, 77, 78, 79, 80, 81, 82, 83, 84, 85, 86, 87, 88, 89, 90]⟩, .str "FIGURES" ⟨#[48, 49, 50, 51, 52, 53, 54, 55, 56, 57]⟩, .int "MOST_FIGURES" 4, .int "MOST_ARGUMENTS" 4, .int "MOST_COLOUR" 7, .int "MOST_MARKS" 3, .glo "BLANK", .int "LEAST_HIGH" 2, .int "MOST_HIGH" 40, .int "LEAST_WIDE" 2, .int "MOST_WIDE" 60, .int "MOST_KEPT" 200, .glo "PLAIN", .int "MOST_TICKS" 1000, .int "MOST_RECORDS" 60, .int "MOST_WORD" 20, .glo "BadText", .exc "BadText", .glo "BadPage", .exc "BadPage", .glo "BadSize", .exc "BadSize", .glo "BadTick", .exc "BadTick", .glo "Nothing", .exc "Nothing", .glo "BadPlace", .exc "BadPlace", .glo "BadPane", .exc "BadPane", .glo "ScreenError", .glo "Reader", .cls "Reader", .mkr "Reader", .noat "Reader" "begun", .noat "Reader" "lost", .meth "Reader" "feed", .meth "Reader" "plain", .meth "Reader" "read", .meth "Reader" "can_go_on", .meth "Reader" "whole", .glo "Row", .cls "Row", .mkr "Row", .noat "Row" "cells", .noat "Row" "goes_on", .glo "Screen", .cls "Screen", .mkr "Screen", .noat "Screen" "reader", .noat "Screen" "wide", .noat "Screen" "high", .noat "Screen" "most", .noat "Screen" "past", .noat "Screen" "rows", .noat "Screen" "row", .noat "Screen" "column", .noat "Screen" "is_full", .noat "Screen" "pen", .noat "Screen" "top", .noat "Screen" "bottom", .noat "Screen" "put_by", .noat "Screen" "last", .meth "Screen" "begin", .meth "Screen" "page", .meth "Screen" "cursor", .meth "Screen" "feed", .meth "Screen" "do", .meth "Screen" "stand", .meth "Screen" "put", .meth "Screen" "roll", .meth "Screen" "roll_down", .meth "Screen" "cut_off", .meth "Screen" "down", .meth "Screen" "up", .meth "Screen" "small", .meth "Screen" "erase", .meth "Screen" "great", .meth "Screen" "one", .meth "Screen" "take_rows", .meth "Screen" "shift", .glo "Tape", .cls "Tape", .mkr "Tape", .noat "Tape" "sizes", .noat "Tape" "rows", .noat "Tape" "taken", .meth "Tape" "record", .meth "Tape" "undo", .meth "Tape" "length", .meth "Tape" "records", .meth "Tape" "need_tick", .meth "Tape" "screen_behind", .meth "Tape" "page_at", .meth "Tape" "cursor_at", .meth "Tape" "changes_at", .meth "Tape" "first_with", .glo "is_sign", .glo "need_text", .glo "is_count", .glo "need", .glo "is_pen", .glo "is_cell", .glo "need_page", .glo "changes", .glo "need_size", .glo "blank_row", .glo "_law_cell", .glo "_law_drawn", .glo "law", .glo "_law_told", .glo "_law_word"]
def dd_is_sign : He.DefD := ⟨("is_sign", none), "is_sign", "is_sign", defArgs st_is_sign, defBody st_is_sign, defScope st_is_sign, [], []⟩
def dd_need_text : He.DefD := ⟨("need_text", none), "need_text", "need_text", defArgs st_need_text, defBody st_need_text, defScope st_need_text, [], []⟩
def dd_Reader_init : He.DefD := ⟨("Reader", some "__init__"), "__init__", "Reader.__init__", defArgs st_Reader_init, defBody st_Reader_init, defScope st_Reader_init, [], []⟩
def dd_Reader_feed : He.DefD := ⟨("Reader", some "feed"), "feed", "Reader.feed", defArgs st_Reader_feed, defBody st_Reader_feed, defScope st_Reader_feed, [], []⟩
def dd_Reader_plain : He.DefD := ⟨("Reader", some "plain"), "plain", "Reader.plain", defArgs st_Reader_plain, defBody st_Reader_plain, defScope st_Reader_plain, [], []⟩
def dd_Reader_read : He.DefD := ⟨("Reader", some "read"), "read", "Reader.read", defArgs st_Reader_read, defBody st_Reader_read, defScope st_Reader_read, [], []⟩
def dd_Reader_can_go_on : He.DefD := ⟨("Reader", some "can_go_on"), "can_go_on", "Reader.can_go_on", defArgs st_Reader_can_go_on, defBody st_Reader_can_go_on, defScope st_Reader_can_go_on, [], []⟩
def dd_Reader_whole : He.DefD := ⟨("Reader", some "whole"), "whole", "Reader.whole", defArgs st_Reader_whole, defBody st_Reader_whole, defScope st_Reader_whole, [], []⟩
def dd_is_count : He.DefD := ⟨("is_count", none), "is_count", "is_count", defArgs st_is_count, defBody st_is_count, defScope st_is_count, [], []⟩
def dd_need : He.DefD := ⟨("need", none), "need", "need", defArgs st_need, defBody st_need, defScope st_need, [], []⟩
def dd_is_pen : He.DefD := ⟨("is_pen", none), "is_pen", "is_pen", defArgs st_is_pen, defBody st_is_pen, defScope st_is_pen, [], []⟩
def dd_is_cell : He.DefD := ⟨("is_cell", none), "is_cell", "is_cell", defArgs st_is_cell, defBody st_is_cell, defScope st_is_cell, [], []⟩
def dd_need_page : He.DefD := ⟨("need_page", none), "need_page", "need_page", defArgs st_need_page, defBody st_need_page, defScope st_need_page, [], []⟩
def dd_changes : He.DefD := ⟨("changes", none), "changes", "changes", defArgs st_changes, defBody st_changes, defScope st_changes, [], []⟩
def dd_need_size : He.DefD := ⟨("need_size", none), "need_size", "need_size", defArgs st_need_size, defBody st_need_size, defScope st_need_size, [], []⟩
def dd_Row_init : He.DefD := ⟨("Row", some "__init__"), "__init__", "Row.__init__", defArgs st_Row_init, defBody st_Row_init, defScope st_Row_init, [], []⟩
def dd_blank_row : He.DefD := ⟨("blank_row", none), "blank_row", "blank_row", defArgs st_blank_row, defBody st_blank_row, defScope st_blank_row, [], []⟩
def dd_Screen_init : He.DefD := ⟨("Screen", some "__init__"), "__init__", "Screen.__init__", defArgs st_Screen_init, defBody st_Screen_init, defScope st_Screen_init, [], []⟩
def dd_Screen_begin : He.DefD := ⟨("Screen", some "begin"), "begin", "Screen.begin", defArgs st_Screen_begin, defBody st_Screen_begin, defScope st_Screen_begin, [], []⟩
def dd_Screen_page : He.DefD := ⟨("Screen", some "page"), "page", "Screen.page", defArgs st_Screen_page, defBody st_Screen_page, defScope st_Screen_page, [], []⟩
def dd_Screen_cursor : He.DefD := ⟨("Screen", some "cursor"), "cursor", "Screen.cursor", defArgs st_Screen_cursor, defBody st_Screen_cursor, defScope st_Screen_cursor, [], []⟩
def dd_Screen_feed : He.DefD := ⟨("Screen", some "feed"), "feed", "Screen.feed", defArgs st_Screen_feed, defBody st_Screen_feed, defScope st_Screen_feed, [], []⟩
def dd_Screen_do : He.DefD := ⟨("Screen", some "do"), "do", "Screen.do", defArgs st_Screen_do, defBody st_Screen_do, defScope st_Screen_do, [], []⟩
def dd_Screen_stand : He.DefD := ⟨("Screen", some "stand"), "stand", "Screen.stand", defArgs st_Screen_stand, defBody st_Screen_stand, defScope st_Screen_stand, [], []⟩
def dd_Screen_put : He.DefD := ⟨("Screen", some "put"), "put", "Screen.put", defArgs st_Screen_put, defBody st_Screen_put, defScope st_Screen_put, [], []⟩
def dd_Screen_roll : He.DefD := ⟨("Screen", some "roll"), "roll", "Screen.roll", defArgs st_Screen_roll, defBody st_Screen_roll, defScope st_Screen_roll, [], []⟩
def dd_Screen_roll_down : He.DefD := ⟨("Screen", some "roll_down"), "roll_down", "Screen.roll_down", defArgs st_Screen_roll_down, defBody st_Screen_roll_down, defScope st_Screen_roll_down, [], []⟩
def dd_Screen_cut_off : He.DefD := ⟨("Screen", some "cut_off"), "cut_off", "Screen.cut_off", defArgs st_Screen_cut_off, defBody st_Screen_cut_off, defScope st_Screen_cut_off, [], []⟩
def dd_Screen_down : He.DefD := ⟨("Screen", some "down"), "down", "Screen.down", defArgs st_Screen_down, defBody st_Screen_down, defScope st_Screen_down, [], []⟩
def dd_Screen_up : He.DefD := ⟨("Screen", some "up"), "up", "Screen.up", defArgs st_Screen_up, defBody st_Screen_up, defScope st_Screen_up, [], []⟩
def dd_Screen_small : He.DefD := ⟨("Screen", some "small"), "small", "Screen.small", defArgs st_Screen_small, defBody st_Screen_small, defScope st_Screen_small, [], []⟩
def dd_Screen_erase : He.DefD := ⟨("Screen", some "erase"), "erase", "Screen.erase", defArgs st_Screen_erase, defBody st_Screen_erase, defScope st_Screen_erase, [], []⟩
def dd_Screen_great : He.DefD := ⟨("Screen", some "great"), "great", "Screen.great", defArgs st_Screen_great, defBody st_Screen_great, defScope st_Screen_great, [], []⟩
def dd_Screen_one : He.DefD := ⟨("Screen", some "one"), "one", "Screen.one", defArgs st_Screen_one, defBody st_Screen_one, defScope st_Screen_one, [], []⟩
def dd_Screen_take_rows : He.DefD := ⟨("Screen", some "take_rows"), "take_rows", "Screen.take_rows", defArgs st_Screen_take_rows, defBody st_Screen_take_rows, defScope st_Screen_take_rows, [], []⟩
def dd_Screen_shift : He.DefD := ⟨("Screen", some "shift"), "shift", "Screen.shift", defArgs st_Screen_shift, defBody st_Screen_shift, defScope st_Screen_shift, [], []⟩
def dd_Tape_init : He.DefD := ⟨("Tape", some "__init__"), "__init__", "Tape.__init__", defArgs st_Tape_init, defBody st_Tape_init, defScope st_Tape_init, [], []⟩
def dd_Tape_record : He.DefD := ⟨("Tape", some "record"), "record", "Tape.record", defArgs st_Tape_record, defBody st_Tape_record, defScope st_Tape_record, [], []⟩
def dd_Tape_undo : He.DefD := ⟨("Tape", some "undo"), "undo", "Tape.undo", defArgs st_Tape_undo, defBody st_Tape_undo, defScope st_Tape_undo, [], []⟩
def dd_Tape_length : He.DefD := ⟨("Tape", some "length"), "length", "Tape.length", defArgs st_Tape_length, defBody st_Tape_length, defScope st_Tape_length, [], []⟩
def dd_Tape_records : He.DefD := ⟨("Tape", some "records"), "records", "Tape.records", defArgs st_Tape_records, defBody st_Tape_records, defScope st_Tape_records, [], []⟩
def dd_Tape_need_tick : He.DefD := ⟨("Tape", some "need_tick"), "need_tick", "Tape.need_tick", defArgs st_Tape_need_tick, defBody st_Tape_need_tick, defScope st_Tape_need_tick, [], []⟩
def dd_Tape_screen_behind : He.DefD := ⟨("Tape", some "screen_behind"), "screen_behind", "Tape.screen_behind", defArgs st_Tape_screen_behind, defBody st_Tape_screen_behind, defScope st_Tape_screen_behind, [], []⟩
def dd_Tape_page_at : He.DefD := ⟨("Tape", some "page_at"), "page_at", "Tape.page_at", defArgs st_Tape_page_at, defBody st_Tape_page_at, defScope st_Tape_page_at, [], []⟩
def dd_Tape_cursor_at : He.DefD := ⟨("Tape", some "cursor_at"), "cursor_at", "Tape.cursor_at", defArgs st_Tape_cursor_at, defBody st_Tape_cursor_at, defScope st_Tape_cursor_at, [], []⟩
def dd_Tape_changes_at : He.DefD := ⟨("Tape", some "changes_at"), "changes_at", "Tape.changes_at", defArgs st_Tape_changes_at, defBody st_Tape_changes_at, defScope st_Tape_changes_at, [], []⟩
def dd_Tape_first_with : He.DefD := ⟨("Tape", some "first_with"), "first_with", "Tape.first_with", defArgs st_Tape_first_with, defBody st_Tape_first_with, defScope st_Tape_first_with, [], []⟩
def dd__law_cell : He.DefD := ⟨("_law_cell", none), "_law_cell", "_law_cell", defArgs st__law_cell, defBody st__law_cell, defScope st__law_cell, [], []⟩
def dd__law_drawn : He.DefD := ⟨("_law_drawn", none), "_law_drawn", "_law_drawn", defArgs st__law_drawn, defBody st__law_drawn, defScope st__law_drawn, [], []⟩
def dd_law : He.DefD := ⟨("law", none), "law", "law", defArgs st_law, defBody st_law, defScope st_law, [], []⟩
def dd__law_told : He.DefD := ⟨("_law_told", none), "_law_told", "_law_told", defArgs st__law_told, defBody st__law_told, defScope st__law_told, [], []⟩
def dd__law_word : He.DefD := ⟨("_law_word", none), "_law_word", "_law_word", defArgs st__law_word, defBody st__law_word, defScope st__law_word, [], []⟩
def fn : List He.DefD := [dd_is_sign, dd_need_text, dd_Reader_init, dd_Reader_feed, dd_Reader_plain, dd_Reader_read, dd_Reader_can_go_on, dd_Reader_whole, dd_is_count, dd_need, dd_is_pen, dd_is_cell, dd_need_page, dd_changes, dd_need_size, dd_Row_init, dd_blank_row, dd_Screen_init, dd_Screen_begin, dd_Screen_page, dd_Screen_cursor, dd_Screen_feed, dd_Screen_do, dd_Screen_stand, dd_Screen_put, dd_Screen_roll, dd_Screen_roll_down, dd_Screen_cut_off, dd_Screen_down, dd_Screen_up, dd_Screen_small, dd_Screen_erase, dd_Screen_great, dd_Screen_one, dd_Screen_take_rows, dd_Screen_shift, dd_Tape_init, dd_Tape_record, dd_Tape_undo, dd_Tape_length, dd_Tape_records, dd_Tape_need_tick, dd_Tape_screen_behind, dd_Tape_page_at, dd_Tape_cursor_at, dd_Tape_changes_at, dd_Tape_first_with, dd__law_cell, dd__law_drawn, dd_law, dd__law_told, dd__law_word]
def tf : List He.Defn := [("law", none)]
abbrev Rw : PySem.W.OpenRow := PySem.W.OpenLaw.row PySem.Challenge.rw_steerscreen_k61_tapes_refused
def exK : PySem.W.Frag → Bool := fun K => He.tupB K "PLAIN" [.int 0, .int 0, .int 0] && He.tupB K "BLANK" [.str ⟨#[32]⟩, .glo "PLAIN"] && badsB K names7
abbrev hkk : PySem.W.Hook := He.hookX 4 fa fn [] tf exK
def ob (s : PySem.W.SharedT) : He.AlX := He.obsX 4 fa fn [] tf exK (HandSHeadRun.getT s)
theorem ob_eq (s : PySem.W.SharedT) : ob s = hkk.obs s.abs := He.obsX_eq (HandSHeadRun.getT_eq s)
def loose : List Str := [("_wall" : Str), ("ScreenError" : Str), ("BadText" : Str), ("BadSize" : Str), ("BadPlace" : Str), ("BadPage" : Str), ("BadPane" : Str), ("BadTick" : Str), ("Nothing" : Str), ("is_sign" : Str), ("need_text" : Str), ("Reader" : Str), ("is_count" : Str), ("need" : Str), ("is_pen" : Str), ("is_cell" : Str), ("need_page" : Str), ("changes" : Str), ("need_size" : Str), ("Row" : Str), ("blank_row" : Str), ("Screen" : Str), ("Tape" : Str), ("_law_cell" : Str), ("_law_drawn" : Str), ("_law_word" : Str), ("_law_told" : Str), ("MOST_TEXT" : Str), ("MOST_FIGURES" : Str), ("MOST_ARGUMENTS" : Str), ("SMALL" : Str), ("GREAT" : Str), ("FIGURES" : Str), ("BARRED" : Str), ("GAP" : Str), ("PLAIN" : Str), ("BLANK" : Str), ("MOST_COLOUR" : Str), ("MOST_MARKS" : Str), ("MOST_WIDE" : Str), ("MOST_HIGH" : Str), ("MOST_KEPT" : Str), ("LEAST_WIDE" : Str), ("LEAST_HIGH" : Str), ("MOST_TICKS" : Str), ("MOST_RECORDS" : Str), ("MOST_WORD" : Str)]
theorem run (w : World) : HandSHeadRun.RunEq Rw (PySem.W.view Rw.prog [53]) hkk ob 5000 loose w := by
  intro os
  kernel_rfl
end Ss
/-! ## Screens: the model, how it lies -/
namespace Ss
open PySem PySem.Spec PyProof.Rows L2
/-! ### the attributes of a Row -/
def fsRow (x0 x1 : V) : List (Str × V) := [("cells", x0), ("goes_on", x1)]
theorem fsRow_len {x0 x1 : V} : (fsRow x0 x1).length < 1000 := by show 2 < 1000; decide
theorem fsRow_g0 {x0 x1 : V} : (fsRow x0 x1).lookup ("cells" : Str) = some x0 := by kernel_rfl
theorem fsRow_p0 {x0 x1 y : V} : putF "cells" y (fsRow x0 x1) = fsRow y x1 := by kernel_rfl
theorem fsRow_g1 {x0 x1 : V} : (fsRow x0 x1).lookup ("goes_on" : Str) = some x1 := by kernel_rfl
theorem fsRow_p1 {x0 x1 y : V} : putF "goes_on" y (fsRow x0 x1) = fsRow x0 y := by kernel_rfl
/-- what is asked of the class -/
structure FRow (c : Ctx) : Prop where
  cl : Cls c.K c.cRow
  n_cells : NoAttr c.K c.cRow "cells"
  n_goes_on : NoAttr c.K c.cRow "goes_on"

/-! ### the attributes of a Screen -/
def fsScreen (x0 x1 x2 x3 x4 x5 x6 x7 x8 x9 x10 x11 x12 x13 : V) : List (Str × V) := [("reader", x0), ("wide", x1), ("high", x2), ("most", x3), ("past", x4), ("rows", x5), ("row", x6), ("column", x7), ("is_full", x8), ("pen", x9), ("top", x10), ("bottom", x11), ("put_by", x12), ("last", x13)]
theorem fsScreen_len {x0 x1 x2 x3 x4 x5 x6 x7 x8 x9 x10 x11 x12 x13 : V} : (fsScreen x0 x1 x2 x3 x4 x5 x6 x7 x8 x9 x10 x11 x12 x13).length < 1000 := by show 14 < 1000; decide
theorem fsScreen_g0 {x0 x1 x2 x3 x4 x5 x6 x7 x8 x9 x10 x11 x12 x13 : V} : (fsScreen x0 x1 x2 x3 x4 x5 x6 x7 x8 x9 x10 x11 x12 x13).lookup ("reader" : Str) = some x0 := by kernel_rfl
theorem fsScreen_p0 {x0 x1 x2 x3 x4 x5 x6 x7 x8 x9 x10 x11 x12 x13 y : V} : putF "reader" y (fsScreen x0 x1 x2 x3 x4 x5 x6 x7 x8 x9 x10 x11 x12 x13) = fsScreen y x1 x2 x3 x4 x5 x6 x7 x8 x9 x10 x11 x12 x13 := by kernel_rfl
theorem fsScreen_g1 {x0 x1 x2 x3 x4 x5 x6 x7 x8 x9 x10 x11 x12 x13 : V} : (fsScreen x0 x1 x2 x3 x4 x5 x6 x7 x8 x9 x10 x11 x12 x13).lookup ("wide" : Str) = some x1 := by kernel_rfl
theorem fsScreen_p1 {x0 x1 x2 x3 x4 x5 x6 x7 x8 x9 x10 x11 x12 x13 y : V} : putF "wide" y (fsScreen x0 x1 x2 x3 x4 x5 x6 x7 x8 x9 x10 x11 x12 x13) = fsScreen x0 y x2 x3 x4 x5 x6 x7 x8 x9 x10 x11 x12 x13 := by kernel_rfl
theorem fsScreen_g2 {x0 x1 x2 x3 x4 x5 x6 x7 x8 x9 x10 x11 x12 x13 : V} : (fsScreen x0 x1 x2 x3 x4 x5 x6 x7 x8 x9 x10 x11 x12 x13).lookup ("high" : Str) = some x2 := by kernel_rfl
theorem fsScreen_p2 {x0 x1 x2 x3 x4 x5 x6 x7 x8 x9 x10 x11 x12 x13 y : V} : putF "high" y (fsScreen x0 x1 x2 x3 x4 x5 x6 x7 x8 x9 x10 x11 x12 x13) = fsScreen x0 x1 y x3 x4 x5 x6 x7 x8 x9 x10 x11 x12 x13 := by kernel_rfl
theorem fsScreen_g3 {x0 x1 x2 x3 x4 x5 x6 x7 x8 x9 x10 x11 x12 x13 : V} : (fsScreen x0 x1 x2 x3 x4 x5 x6 x7 x8 x9 x10 x11 x12 x13).lookup ("most" : Str) = some x3 := by kernel_rfl
theorem fsScreen_p3 {x0 x1 x2 x3 x4 x5 x6 x7 x8 x9 x10 x11 x12 x13 y : V} : putF "most" y (fsScreen x0 x1 x2 x3 x4 x5 x6 x7 x8 x9 x10 x11 x12 x13) = fsScreen x0 x1 x2 y x4 x5 x6 x7 x8 x9 x10 x11 x12 x13 := by kernel_rfl
theorem fsScreen_g4 {x0 x1 x2 x3 x4 x5 x6 x7 x8 x9 x10 x11 x12 x13 : V} : (fsScreen x0 x1 x2 x3 x4 x5 x6 x7 x8 x9 x10 x11 x12 x13).lookup ("past" : Str) = some x4 := by kernel_rfl
theorem fsScreen_p4 {x0 x1 x2 x3 x4 x5 x6 x7 x8 x9 x10 x11 x12 x13 y : V} : putF "past" y (fsScreen x0 x1 x2 x3 x4 x5 x6 x7 x8 x9 x10 x11 x12 x13) = fsScreen x0 x1 x2 x3 y x5 x6 x7 x8 x9 x10 x11 x12 x13 := by kernel_rfl
theorem fsScreen_g5 {x0 x1 x2 x3 x4 x5 x6 x7 x8 x9 x10 x11 x12 x13 : V} : (fsScreen x0 x1 x2 x3 x4 x5 x6 x7 x8 x9 x10 x11 x12 x13).lookup ("rows" : Str) = some x5 := by kernel_rfl
theorem fsScreen_p5 {x0 x1 x2 x3 x4 x5 x6 x7 x8 x9 x10 x11 x12 x13 y : V} : putF "rows" y (fsScreen x0 x1 x2 x3 x4 x5 x6 x7 x8 x9 x10 x11 x12 x13) = fsScreen x0 x1 x2 x3 x4 y x6 x7 x8 x9 x10 x11 x12 x13 := by kernel_rfl
theorem fsScreen_g6 {x0 x1 x2 x3 x4 x5 x6 x7 x8 x9 x10 x11 x12 x13 : V} : (fsScreen x0 x1 x2 x3 x4 x5 x6 x7 x8 x9 x10 x11 x12 x13).lookup ("row" : Str) = some x6 := by kernel_rfl
theorem fsScreen_p6 {x0 x1 x2 x3 x4 x5 x6 x7 x8 x9 x10 x11 x12 x13 y : V} : putF "row" y (fsScreen x0 x1 x2 x3 x4 x5 x6 x7 x8 x9 x10 x11 x12 x13) = fsScreen x0 x1 x2 x3 x4 x5 y x7 x8 x9 x10 x11 x12 x13 := by kernel_rfl
theorem fsScreen_g7 {x0 x1 x2 x3 x4 x5 x6 x7 x8 x9 x10 x11 x12 x13 : V} : (fsScreen x0 x1 x2 x3 x4 x5 x6 x7 x8 x9 x10 x11 x12 x13).lookup ("column" : Str) = some x7 := by kernel_rfl
theorem fsScreen_p7 {x0 x1 x2 x3 x4 x5 x6 x7 x8 x9 x10 x11 x12 x13 y : V} : putF "column" y (fsScreen x0 x1 x2 x3 x4 x5 x6 x7 x8 x9 x10 x11 x12 x13) = fsScreen x0 x1 x2 x3 x4 x5 x6 y x8 x9 x10 x11 x12 x13 := by kernel_rfl
theorem fsScreen_g8 {x0 x1 x2 x3 x4 x5 x6 x7 x8 x9 x10 x11 x12 x13 : V} : (fsScreen x0 x1 x2 x3 x4 x5 x6 x7 x8 x9 x10 x11 x12 x13).lookup ("is_full" : Str) = some x8 := by kernel_rfl
theorem fsScreen_p8 {x0 x1 x2 x3 x4 x5 x6 x7 x8 x9 x10 x11 x12 x13 y : V} : putF "is_full" y (fsScreen x0 x1 x2 x3 x4 x5 x6 x7 x8 x9 x10 x11 x12 x13) = fsScreen x0 x1 x2 x3 x4 x5 x6 x7 y x9 x10 x11 x12 x13 := by kernel_rfl
theorem fsScreen_g9 {x0 x1 x2 x3 x4 x5 x6 x7 x8 x9 x10 x11 x12 x13 : V} : (fsScreen x0 x1 x2 x3 x4 x5 x6 x7 x8 x9 x10 x11 x12 x13).lookup ("pen" : Str) = some x9 := by kernel_rfl
theorem fsScreen_p9 {x0 x1 x2 x3 x4 x5 x6 x7 x8 x9 x10 x11 x12 x13 y : V} : putF "pen" y (fsScreen x0 x1 x2 x3 x4 x5 x6 x7 x8 x9 x10 x11 x12 x13) = fsScreen x0 x1 x2 x3 x4 x5 x6 x7 x8 y x10 x11 x12 x13 := by kernel_rfl
theorem fsScreen_g10 {x0 x1 x2 x3 x4 x5 x6 x7 x8 x9 x10 x11 x12 x13 : V} : (fsScreen x0 x1 x2 x3 x4 x5 x6 x7 x8 x9 x10 x11 x12 x13).lookup ("top" : Str) = some x10 := by kernel_rfl
theorem fsScreen_p10 {x0 x1 x2 x3 x4 x5 x6 x7 x8 x9 x10 x11 x12 x13 y : V} : putF "top" y (fsScreen x0 x1 x2 x3 x4 x5 x6 x7 x8 x9 x10 x11 x12 x13) = fsScreen x0 x1 x2 x3 x4 x5 x6 x7 x8 x9 y x11 x12 x13 := by kernel_rfl
theorem fsScreen_g11 {x0 x1 x2 x3 x4 x5 x6 x7 x8 x9 x10 x11 x12 x13 : V} : (fsScreen x0 x1 x2 x3 x4 x5 x6 x7 x8 x9 x10 x11 x12 x13).lookup ("bottom" : Str) = some x11 := by kernel_rfl
theorem fsScreen_p11 {x0 x1 x2 x3 x4 x5 x6 x7 x8 x9 x10 x11 x12 x13 y : V} : putF "bottom" y (fsScreen x0 x1 x2 x3 x4 x5 x6 x7 x8 x9 x10 x11 x12 x13) = fsScreen x0 x1 x2 x3 x4 x5 x6 x7 x8 x9 x10 y x12 x13 := by kernel_rfl
theorem fsScreen_g12 {x0 x1 x2 x3 x4 x5 x6 x7 x8 x9 x10 x11 x12 x13 : V} : (fsScreen x0 x1 x2 x3 x4 x5 x6 x7 x8 x9 x10 x11 x12 x13).lookup ("put_by" : Str) = some x12 := by kernel_rfl
theorem fsScreen_p12 {x0 x1 x2 x3 x4 x5 x6 x7 x8 x9 x10 x11 x12 x13 y : V} : putF "put_by" y (fsScreen x0 x1 x2 x3 x4 x5 x6 x7 x8 x9 x10 x11 x12 x13) = fsScreen x0 x1 x2 x3 x4 x5 x6 x7 x8 x9 x10 x11 y x13 := by kernel_rfl
theorem fsScreen_g13 {x0 x1 x2 x3 x4 x5 x6 x7 x8 x9 x10 x11 x12 x13 : V} : (fsScreen x0 x1 x2 x3 x4 x5 x6 x7 x8 x9 x10 x11 x12 x13).lookup ("last" : Str) = some x13 := by kernel_rfl
theorem fsScreen_p13 {x0 x1 x2 x3 x4 x5 x6 x7 x8 x9 x10 x11 x12 x13 y : V} : putF "last" y (fsScreen x0 x1 x2 x3 x4 x5 x6 x7 x8 x9 x10 x11 x12 x13) = fsScreen x0 x1 x2 x3 x4 x5 x6 x7 x8 x9 x10 x11 x12 y := by kernel_rfl
theorem fsScreen_m_begin {x0 x1 x2 x3 x4 x5 x6 x7 x8 x9 x10 x11 x12 x13 : V} : (fsScreen x0 x1 x2 x3 x4 x5 x6 x7 x8 x9 x10 x11 x12 x13).lookup ("begin" : Str) = none := by kernel_rfl
theorem fsScreen_m_size {x0 x1 x2 x3 x4 x5 x6 x7 x8 x9 x10 x11 x12 x13 : V} : (fsScreen x0 x1 x2 x3 x4 x5 x6 x7 x8 x9 x10 x11 x12 x13).lookup ("size" : Str) = none := by kernel_rfl
theorem fsScreen_m_page {x0 x1 x2 x3 x4 x5 x6 x7 x8 x9 x10 x11 x12 x13 : V} : (fsScreen x0 x1 x2 x3 x4 x5 x6 x7 x8 x9 x10 x11 x12 x13).lookup ("page" : Str) = none := by kernel_rfl
theorem fsScreen_m_texts {x0 x1 x2 x3 x4 x5 x6 x7 x8 x9 x10 x11 x12 x13 : V} : (fsScreen x0 x1 x2 x3 x4 x5 x6 x7 x8 x9 x10 x11 x12 x13).lookup ("texts" : Str) = none := by kernel_rfl
theorem fsScreen_m_kept {x0 x1 x2 x3 x4 x5 x6 x7 x8 x9 x10 x11 x12 x13 : V} : (fsScreen x0 x1 x2 x3 x4 x5 x6 x7 x8 x9 x10 x11 x12 x13).lookup ("kept" : Str) = none := by kernel_rfl
theorem fsScreen_m_cursor {x0 x1 x2 x3 x4 x5 x6 x7 x8 x9 x10 x11 x12 x13 : V} : (fsScreen x0 x1 x2 x3 x4 x5 x6 x7 x8 x9 x10 x11 x12 x13).lookup ("cursor" : Str) = none := by kernel_rfl
theorem fsScreen_m_state {x0 x1 x2 x3 x4 x5 x6 x7 x8 x9 x10 x11 x12 x13 : V} : (fsScreen x0 x1 x2 x3 x4 x5 x6 x7 x8 x9 x10 x11 x12 x13).lookup ("state" : Str) = none := by kernel_rfl
theorem fsScreen_m_cell {x0 x1 x2 x3 x4 x5 x6 x7 x8 x9 x10 x11 x12 x13 : V} : (fsScreen x0 x1 x2 x3 x4 x5 x6 x7 x8 x9 x10 x11 x12 x13).lookup ("cell" : Str) = none := by kernel_rfl
theorem fsScreen_m_feed {x0 x1 x2 x3 x4 x5 x6 x7 x8 x9 x10 x11 x12 x13 : V} : (fsScreen x0 x1 x2 x3 x4 x5 x6 x7 x8 x9 x10 x11 x12 x13).lookup ("feed" : Str) = none := by kernel_rfl
theorem fsScreen_m_do {x0 x1 x2 x3 x4 x5 x6 x7 x8 x9 x10 x11 x12 x13 : V} : (fsScreen x0 x1 x2 x3 x4 x5 x6 x7 x8 x9 x10 x11 x12 x13).lookup ("do" : Str) = none := by kernel_rfl
theorem fsScreen_m_stand {x0 x1 x2 x3 x4 x5 x6 x7 x8 x9 x10 x11 x12 x13 : V} : (fsScreen x0 x1 x2 x3 x4 x5 x6 x7 x8 x9 x10 x11 x12 x13).lookup ("stand" : Str) = none := by kernel_rfl
theorem fsScreen_m_put {x0 x1 x2 x3 x4 x5 x6 x7 x8 x9 x10 x11 x12 x13 : V} : (fsScreen x0 x1 x2 x3 x4 x5 x6 x7 x8 x9 x10 x11 x12 x13).lookup ("put" : Str) = none := by kernel_rfl
theorem fsScreen_m_roll {x0 x1 x2 x3 x4 x5 x6 x7 x8 x9 x10 x11 x12 x13 : V} : (fsScreen x0 x1 x2 x3 x4 x5 x6 x7 x8 x9 x10 x11 x12 x13).lookup ("roll" : Str) = none := by kernel_rfl
theorem fsScreen_m_roll_down {x0 x1 x2 x3 x4 x5 x6 x7 x8 x9 x10 x11 x12 x13 : V} : (fsScreen x0 x1 x2 x3 x4 x5 x6 x7 x8 x9 x10 x11 x12 x13).lookup ("roll_down" : Str) = none := by kernel_rfl
theorem fsScreen_m_cut_off {x0 x1 x2 x3 x4 x5 x6 x7 x8 x9 x10 x11 x12 x13 : V} : (fsScreen x0 x1 x2 x3 x4 x5 x6 x7 x8 x9 x10 x11 x12 x13).lookup ("cut_off" : Str) = none := by kernel_rfl
theorem fsScreen_m_down {x0 x1 x2 x3 x4 x5 x6 x7 x8 x9 x10 x11 x12 x13 : V} : (fsScreen x0 x1 x2 x3 x4 x5 x6 x7 x8 x9 x10 x11 x12 x13).lookup ("down" : Str) = none := by kernel_rfl
theorem fsScreen_m_up {x0 x1 x2 x3 x4 x5 x6 x7 x8 x9 x10 x11 x12 x13 : V} : (fsScreen x0 x1 x2 x3 x4 x5 x6 x7 x8 x9 x10 x11 x12 x13).lookup ("up" : Str) = none := by kernel_rfl
theorem fsScreen_m_small {x0 x1 x2 x3 x4 x5 x6 x7 x8 x9 x10 x11 x12 x13 : V} : (fsScreen x0 x1 x2 x3 x4 x5 x6 x7 x8 x9 x10 x11 x12 x13).lookup ("small" : Str) = none := by kernel_rfl
theorem fsScreen_m_erase {x0 x1 x2 x3 x4 x5 x6 x7 x8 x9 x10 x11 x12 x13 : V} : (fsScreen x0 x1 x2 x3 x4 x5 x6 x7 x8 x9 x10 x11 x12 x13).lookup ("erase" : Str) = none := by kernel_rfl
theorem fsScreen_m_great {x0 x1 x2 x3 x4 x5 x6 x7 x8 x9 x10 x11 x12 x13 : V} : (fsScreen x0 x1 x2 x3 x4 x5 x6 x7 x8 x9 x10 x11 x12 x13).lookup ("great" : Str) = none := by kernel_rfl
theorem fsScreen_m_one {x0 x1 x2 x3 x4 x5 x6 x7 x8 x9 x10 x11 x12 x13 : V} : (fsScreen x0 x1 x2 x3 x4 x5 x6 x7 x8 x9 x10 x11 x12 x13).lookup ("one" : Str) = none := by kernel_rfl
theorem fsScreen_m_take_rows {x0 x1 x2 x3 x4 x5 x6 x7 x8 x9 x10 x11 x12 x13 : V} : (fsScreen x0 x1 x2 x3 x4 x5 x6 x7 x8 x9 x10 x11 x12 x13).lookup ("take_rows" : Str) = none := by kernel_rfl
theorem fsScreen_m_shift {x0 x1 x2 x3 x4 x5 x6 x7 x8 x9 x10 x11 x12 x13 : V} : (fsScreen x0 x1 x2 x3 x4 x5 x6 x7 x8 x9 x10 x11 x12 x13).lookup ("shift" : Str) = none := by kernel_rfl
/-- what is asked of the class -/
structure FScreen (c : Ctx) : Prop where
  cl : Cls c.K c.cScreen
  n_reader : NoAttr c.K c.cScreen "reader"
  n_wide : NoAttr c.K c.cScreen "wide"
  n_high : NoAttr c.K c.cScreen "high"
  n_most : NoAttr c.K c.cScreen "most"
  n_past : NoAttr c.K c.cScreen "past"
  n_rows : NoAttr c.K c.cScreen "rows"
  n_row : NoAttr c.K c.cScreen "row"
  n_column : NoAttr c.K c.cScreen "column"
  n_is_full : NoAttr c.K c.cScreen "is_full"
  n_pen : NoAttr c.K c.cScreen "pen"
  n_top : NoAttr c.K c.cScreen "top"
  n_bottom : NoAttr c.K c.cScreen "bottom"
  n_put_by : NoAttr c.K c.cScreen "put_by"
  n_last : NoAttr c.K c.cScreen "last"

abbrev Pen : Type := Nat × Nat × Nat
def penData (p : Pen) : PyData := .tuple [.int (p.1 : Nat), .int (p.2.1 : Nat), .int (p.2.2 : Nat)]
structure Cell where
  sign : Nat
  pen : Pen
deriving DecidableEq
def Cell.data (x : Cell) : PyData := .tuple [.str (T [x.sign]), penData x.pen]
def plainPen : Pen := (0, 0, 0)
def blankCell : Cell := ⟨32, plainPen⟩
structure PRow where
  cells : List Cell
  goes : Bool
deriving DecidableEq
def blankRow (w : Nat) : PRow := ⟨List.replicate w blankCell, false⟩
structure Scr where
  rd : Rdr
  wide : Nat
  high : Nat
  most : Nat
  past : List PRow
  rows : List PRow
  row : Nat
  column : Nat
  full : Bool
  pen : Pen
  top : Nat
  bottom : Nat
  putBy : Nat × Nat × Pen
  last : Option Nat
namespace Scr
def rowAt (S : Scr) (i : Nat) : PRow := S.rows.getD i ⟨[], false⟩
def setRow (S : Scr) (i : Nat) (p : PRow) : Scr := { S with rows := S.rows.set i p }
def setGoes (S : Scr) (i : Nat) (b : Bool) : Scr := S.setRow i { S.rowAt i with goes := b }
def begin (S : Scr) : Scr := { S with rows := List.replicate S.high (blankRow S.wide), row := 0, column := 0, full := false, pen := plainPen, top := 0, bottom := S.high - 1, putBy := (0, 0, plainPen), last := none }
def new (w h m : Nat) : Scr := begin ⟨Rdr.new, w, h, m, [], [], 0, 0, false, plainPen, 0, 0, (0, 0, plainPen), none⟩
def stand (S : Scr) (r k : Int) : Scr := { S with row := (max 0 (min ((S.high : Int) - 1) r)).toNat, column := (max 0 (min ((S.wide : Int) - 1) k)).toNat, full := false }
def cutOff (S : Scr) (top : Nat) : Scr := (if 1 ≤ top then S.setGoes (top - 1) false else S).setGoes S.bottom false
def rolled (S : Scr) (top n : Nat) : Scr :=
  { S with past := if top = 0 then (S.past ++ S.rows.take n).drop (S.past.length + n - S.most) else S.past,
           rows := S.rows.take top ++ (S.rows.drop (top + n)).take (S.bottom + 1 - (top + n)) ++ List.replicate n (blankRow S.wide) ++ S.rows.drop (S.bottom + 1) }
def roll (S : Scr) (top many : Nat) : Scr := (S.rolled top (min many (S.bottom + 1 - top))).cutOff top
def rolledDown (S : Scr) (top n : Nat) : Scr :=
  { S with rows := S.rows.take top ++ List.replicate n (blankRow S.wide) ++ (S.rows.drop top).take (S.bottom + 1 - n - top) ++ S.rows.drop (S.bottom + 1) }
def rollDown (S : Scr) (top many : Nat) : Scr := (S.rolledDown top (min many (S.bottom + 1 - top))).cutOff top
def down (S : Scr) : Scr := if S.row = S.bottom then S.roll S.top 1 else if S.row < S.high - 1 then { S with row := S.row + 1 } else S
def up (S : Scr) : Scr := if S.row = S.top then S.rollDown S.top 1 else if 0 < S.row then { S with row := S.row - 1 } else S
def setCells (S : Scr) (cells : List Cell) : Scr := S.setRow S.row { S.rowAt S.row with cells := cells }
def next (S : Scr) : Scr := if S.column = S.wide - 1 then { S with full := true } else { S with column := S.column + 1 }
def wrap (S : Scr) : Scr := if S.full then (let S1 := (S.setGoes S.row (decide (S.row = S.bottom) || decide (S.row < S.high - 1))).down; S1.stand S1.row 0) else S
def type1 (S : Scr) (n : Nat) : Scr := next { S.setCells ((S.rowAt S.row).cells.set S.column ⟨n, S.pen⟩) with last := some n }
def put (S : Scr) (n : Nat) : Scr := S.wrap.type1 n
def erase (S : Scr) (w : Nat) : Scr :=
  let cells := (S.rowAt S.row).cells
  let S1 := if w = 101 then S.setCells (cells.take S.column ++ List.replicate (S.wide - S.column) blankCell)
    else if w = 98 then S.setCells (List.replicate (S.column + 1) blankCell ++ cells.drop (S.column + 1))
    else if w = 107 then S.setCells (List.replicate S.wide blankCell)
    else { S with rows := List.replicate S.high (blankRow S.wide) }
  { (if w = 98 then S1 else S1.setGoes S1.row false) with full := false }
def small (S : Scr) (w : Nat) : Scr :=
  if w = 117 then S.stand (S.row - 1) S.column else if w = 100 then S.stand (S.row + 1) S.column else if w = 108 then S.stand S.row (S.column - 1) else if w = 114 then S.stand S.row (S.column + 1)
  else if w = 104 then S.stand 0 0
  else if w = 110 then S.down.stand S.down.row S.down.column
  else if w = 112 then S.up.stand S.up.row S.up.column
  else if w = 101 ∨ w = 98 ∨ w = 107 ∨ w = 99 then S.erase w
  else if w = 115 then { S with putBy := (S.row, S.column, S.pen) }
  else if w = 116 then { S.stand S.putBy.1 S.putBy.2.1 with pen := S.putBy.2.2 }
  else if w = 122 then S.begin
  else S
def takeRows (S : Scr) (n : Nat) : Scr := { S.roll S.row n with past := S.past }
def shift (S : Scr) (w many : Nat) : Scr :=
  let cells := (S.rowAt S.row).cells
  let ahead := cells.take S.column
  let rest := cells.drop S.column
  let fresh := if w = 88 then ahead ++ rest.drop many ++ List.replicate many blankCell else ahead ++ List.replicate many blankCell ++ rest.take (rest.length - many)
  { (S.setCells fresh).setGoes S.row false with full := false }
def putMany (n : Nat) : Nat → Scr → Scr
  | 0, S => S
  | k + 1, S => putMany n k (S.put n)
def one (S : Scr) (w n : Nat) : Scr :=
  if w = 67 then (if n ≤ 7 then { S with pen := (n, S.pen.2) } else S)
  else if w = 66 then (if n ≤ 7 then { S with pen := (S.pen.1, n, S.pen.2.2) } else S)
  else if w = 77 then (if n ≤ 3 then { S with pen := (S.pen.1, S.pen.2.1, n) } else S)
  else if w = 88 ∨ w = 73 then S.shift w (min n (S.wide - S.column))
  else if (w = 68 ∨ w = 78) ∧ S.top ≤ S.row ∧ S.row ≤ S.bottom then
    (let S1 := if w = 68 then S.takeRows n else S.rollDown S.row n; S1.stand S1.row 0)
  else if w = 74 then (match S.last with
    | some l => putMany l (min n (S.wide * S.high)) S
    | none => S)
  else S
def great (S : Scr) (w : Nat) (ns : List Nat) : Scr :=
  match ns with
  | [a, b] => if w = 71 then S.stand a b else if w = 82 then (if a < b ∧ b < S.high then ({ S with top := a, bottom := b }).stand 0 0 else S) else S
  | [a] => S.one w a
  | _ => S
def act (S : Scr) : Tk → Scr
  | .sign n => S.put n
  | .fin => S.down.stand S.down.row 0
  | .act w ns => if isSmall w then S.small w else S.great w ns
def acts (S : Scr) (ts : List Tk) : Scr := ts.foldl act S
/-- a text comes -/
def fed (S : Scr) (l : List Nat) : Scr := Scr.acts { S with rd := (S.rd.feed l).1 } (S.rd.feed l).2
/-- what holds of every screen -/
structure Wf (S : Scr) : Prop where
  w1 : 2 ≤ S.wide
  w2 : S.wide ≤ 60
  h1 : 2 ≤ S.high
  h2 : S.high ≤ 40
  m : S.most ≤ 200
  rl : S.rows.length = S.high
  rw : ∀ p ∈ S.rows, p.cells.length = S.wide
  pl : S.past.length ≤ S.most
  pw : ∀ p ∈ S.past, p.cells.length = S.wide
  row : S.row < S.high
  column : S.column < S.wide
  tb : S.top ≤ S.bottom
  bh : S.bottom < S.high
  rd : S.rd.pre.Wf
end Scr
/-! ### how a row, a screen lies -/
structure RowC where
  a : Addr
  dx : Addr
  cl : Addr
  vals : List V
  row : PRow
abbrev rowO (c : Ctx) (dx cl : Addr) (g : Bool) : HO := .ins c.cRow dx (fsRow (.ref cl) (.bl g))
def ownR (c : Ctx) : List RowC → List (Addr × HO)
  | [] => []
  | r :: l => (r.a, rowO c r.dx r.cl r.row.goes) :: (r.cl, .lst r.vals) :: ownR c l
structure ScrC where
  dx : Addr
  r : Addr
  rdx : Addr
  pp : Addr
  pr : Addr
  penv : V
  pbv : V
  past : List RowC
  rows : List RowC
def lastV : Option Nat → V
  | none => .non
  | some n => .str (T [n])
abbrev scrO (c : Ctx) (C : ScrC) (S : Scr) : HO := .ins c.cScreen C.dx (fsScreen (.ref C.r) (.int (S.wide : Nat)) (.int (S.high : Nat)) (.int (S.most : Nat)) (.ref C.pp) (.ref C.pr) (.int (S.row : Nat)) (.int (S.column : Nat)) (.bl S.full) C.penv (.int (S.top : Nat)) (.int (S.bottom : Nat)) C.pbv (lastV S.last))
abbrev scrL (c : Ctx) (s : Addr) (C : ScrC) (S : Scr) (L : List (Addr × HO)) : List (Addr × HO) := (s, scrO c C S) :: (C.r, rdO c C.rdx S.rd) :: (ownR c C.rows ++ L)
abbrev rowRefs (l : List RowC) : List V := l.map fun r => .ref r.a
def cellsAt (c : Ctx) (F : Hp) (r : RowC) : Prop := DpAll c.K F r.vals (r.row.cells.map Cell.data)
structure ScrAt (c : Ctx) (F : Hp) (C : ScrC) (S : Scr) : Prop where
  wf : S.Wf
  rows : C.rows.map (·.row) = S.rows
  past : C.past.map (·.row) = S.past
  vals : ∀ r ∈ C.rows, cellsAt c F r
  pr : F C.pr = some (.lst (rowRefs C.rows))
  pp : F C.pp = some (.lst (rowRefs C.past))
  pin : ∀ r ∈ C.past, F r.a = some (rowO c r.dx r.cl r.row.goes) ∧ F r.cl = some (.lst r.vals) ∧ cellsAt c F r
  pen : Dp c.K F C.penv (penData S.pen)
  pb : ∃ q pv, C.pbv = .ref q ∧ SqT c.K F q [.int (S.putBy.1 : Nat), .int (S.putBy.2.1 : Nat), pv] ∧ Dp c.K F pv (penData S.putBy.2.2)
section
variable {c : Ctx} {F F' H : Hp} {C : ScrC} {S : Scr} {L : List (Addr × HO)} {i : Nat} {r r' : RowC}
theorem ScrAt.gr (g : Gr F F') (A : ScrAt c F C S) : ScrAt c F' C S :=
  ⟨A.wf, A.rows, A.past, fun r hr => g.dpAll (A.vals r hr), g.lst A.pr, g.lst A.pp, fun r hr => let ⟨a, b, d⟩ := A.pin r hr; ⟨g.ins a, g.lst b, g.dpAll d⟩, g.dp A.pen, let ⟨q, pv, a, b, d⟩ := A.pb; ⟨q, pv, a, g.sqT b, g.dp d⟩⟩
theorem ScrAt.len (A : ScrAt c F C S) : C.rows.length = S.high := by
  rw [← A.wf.rl, ← A.rows, List.length_map]
theorem ScrAt.plen (A : ScrAt c F C S) : C.past.length ≤ 200 := by
  have h : C.past.length = S.past.length := by rw [← A.past, List.length_map]
  rw [h]; exact Nat.le_trans A.wf.pl A.wf.m
theorem ScrAt.rowAt (A : ScrAt c F C S) (h : C.rows[i]? = some r) : S.rowAt i = r.row := by
  unfold Scr.rowAt
  rw [← A.rows, List.getD_eq_getElem?_getD, List.getElem?_map, h]; rfl
theorem ownR_app (l m : List RowC) : ownR c (l ++ m) = ownR c l ++ ownR c m := by
  induction l with
  | nil => rfl
  | cons r l ih => show _ :: _ :: ownR c (l ++ m) = _; rw [ih]; rfl
theorem ownR_out : ∀ {l : List RowC} {i : Nat}, l[i]? = some r → List.Perm (ownR c l) ((r.a, rowO c r.dx r.cl r.row.goes) :: (r.cl, .lst r.vals) :: ownR c (l.eraseIdx i))
  | [], _, h => (nomatch h)
  | x :: l, 0, h => by cases h; exact .refl _
  | x :: l, i + 1, h => by
    have ih := ownR_out (l := l) (i := i) h
    show List.Perm (_ :: _ :: ownR c l) (_ :: _ :: _ :: _ :: ownR c (l.eraseIdx i))
    exact ((ih.cons _).cons _).trans (List.perm_append_comm_assoc [_, _] [_, _] _)
theorem ownR_in : ∀ {l : List RowC} {i : Nat}, i < l.length → List.Perm (ownR c (l.set i r)) ((r.a, rowO c r.dx r.cl r.row.goes) :: (r.cl, .lst r.vals) :: ownR c (l.eraseIdx i)) := fun {l i} h => by
  have e : (l.set i r).eraseIdx i = l.eraseIdx i := List.eraseIdx_set_eq
  have z := ownR_out (c := c) (l := l.set i r) (i := i) (r := r) (by rw [List.getElem?_set_self h])
  rw [e] at z; exact z
/-- one row's two cells come to the front -/
theorem Hold.row (W : Hold F (ownR c C.rows ++ L) H) (h : C.rows[i]? = some r) : Hold F ((r.a, rowO c r.dx r.cl r.row.goes) :: (r.cl, .lst r.vals) :: (ownR c (C.rows.eraseIdx i) ++ L)) H :=
  W.perm ((ownR_out h).append_right L)
theorem Hold.rowBack (W : Hold F ((r'.a, rowO c r'.dx r'.cl r'.row.goes) :: (r'.cl, .lst r'.vals) :: (ownR c (C.rows.eraseIdx i) ++ L)) H) (h : i < C.rows.length) : Hold F (ownR c (C.rows.set i r') ++ L) H :=
  W.perm ((ownR_in h).symm.append_right L)
/-- the same behind two more -/
theorem Hold.row2 {x y : Addr × HO} (W : Hold F (x :: y :: (ownR c C.rows ++ L)) H) (h : C.rows[i]? = some r) : Hold F ((r.a, rowO c r.dx r.cl r.row.goes) :: (r.cl, .lst r.vals) :: x :: y :: (ownR c (C.rows.eraseIdx i) ++ L)) H :=
  W.perm (((((ownR_out h).append_right L).cons y).cons x).trans (List.perm_append_comm_assoc [x, y] [_, _] _))
theorem Hold.row2Back {x y : Addr × HO} (W : Hold F ((r'.a, rowO c r'.dx r'.cl r'.row.goes) :: (r'.cl, .lst r'.vals) :: x :: y :: (ownR c (C.rows.eraseIdx i) ++ L)) H) (h : i < C.rows.length) : Hold F (x :: y :: (ownR c (C.rows.set i r') ++ L)) H :=
  W.perm ((List.perm_append_comm_assoc [_, _] [x, y] _).trans ((((ownR_in h).symm.append_right L).cons y).cons x))
theorem map_set_same {rs : List RowC} (h : rs[i]? = some r) (ha : r'.a = r.a) : rowRefs (rs.set i r') = rowRefs rs := by
  unfold rowRefs
  rw [List.map_set]
  refine List.ext_getElem? fun j => ?_
  rw [List.getElem?_set]
  split
  · rename_i e; subst e
    split
    · rw [List.getElem?_map, h, ha]; rfl
    · rename_i hl
      rw [List.getElem?_eq_none (by simpa using hl)]
  · rfl
end
end Ss
/-! ## Screens: promises and readings -/
namespace Ss
open PySem PySem.Spec PyProof.Rows L2
open Ss in
local macro_rules | `(tactic| walk_at "fg") => `(tactic| first | with_reducible exact fsScreen_g0 | with_reducible exact fsScreen_g1 | with_reducible exact fsScreen_g2 | with_reducible exact fsScreen_g3 | with_reducible exact fsScreen_g4 | with_reducible exact fsScreen_g5 | with_reducible exact fsScreen_g6 | with_reducible exact fsScreen_g7 | with_reducible exact fsScreen_g8 | with_reducible exact fsScreen_g9 | with_reducible exact fsScreen_g10 | with_reducible exact fsScreen_g11 | with_reducible exact fsScreen_g12 | with_reducible exact fsScreen_g13 | with_reducible exact fsRow_g0 | with_reducible exact fsRow_g1 | with_reducible exact fsReader_g0 | with_reducible exact fsReader_g1)
open Ss in
local macro_rules | `(tactic| walk_at "r") => `(tactic| repeat (first
  | with_reducible refine x_seq ?_ | with_reducible refine x_asg ?_ | with_reducible refine x_var rfl ?_ | with_reducible refine x_c ?_ | with_reducible refine x_op ?_ | with_reducible refine x_name ?_ | with_reducible refine x_gcons ?_ | with_reducible refine x_gnil ?_
  | with_reducible refine x_cons ?_ | with_reducible refine x_nil ?_ | with_reducible refine x_cb ?_ | with_reducible refine x_ifs ?_ | with_reducible refine x_test ?_ | with_reducible refine x_bl ?_
  | with_reducible refine g_addNN ?_ | with_reducible refine g_addNL ?_ | with_reducible refine g_addLN ?_ | with_reducible refine l_addI ?_ | with_reducible refine l_subI ?_ | with_reducible refine g_ltNL ?_ | with_reducible refine l_ltI ?_ | with_reducible refine l_leI ?_ | with_reducible refine l_gtI ?_ | with_reducible refine l_geI ?_ | with_reducible refine l_eqX ?_ | with_reducible refine l_neX ?_ | with_reducible refine g_eqNL ?_ | with_reducible refine l_eqII ?_ | with_reducible refine l_neII ?_ | with_reducible refine l_eq rfl ?_ | with_reducible refine l_ne rfl ?_
  | with_reducible refine x_fld ?_ | with_reducible refine x_ret ?_ | with_reducible refine x_drop ?_ | with_reducible refine x_next ?_ | with_reducible refine x_tup ?_ | with_reducible refine x_lst ?_ | with_reducible refine x_f ?_ | with_reducible refine x_o ?_ | with_reducible refine x_n ?_
  | with_reducible refine x_bm ?_ | with_reducible refine x_bm0 ?_ | with_reducible refine x_m1 ?_ | with_reducible refine x_m0 ?_ | with_reducible refine x_isstr ?_ | with_reducible refine x_tystr ?_ | with_reducible refine x_sl ?_ | with_reducible refine x_part ?_ | with_reducible refine x_part' ?_ | with_reducible refine x_nopart ?_
  | with_reducible refine x_sfld ?_ | with_reducible refine x_if ?_ | with_reducible refine x_isty ?_ | with_reducible refine x_chain ?_ | with_reducible refine x_andV ?_ | with_reducible refine x_orV ?_ | with_reducible refine x_notV ?_ | with_reducible refine x_B ?_ | with_reducible refine x_and ?_ | with_reducible refine x_or ?_ | with_reducible refine x_not ?_ | with_reducible refine x_tru ?_ | with_reducible refine x_yes ?_
  | with_reducible refine x_un ?_ | with_reducible refine x_neg ?_ | with_reducible refine x_par ?_ | with_reducible refine x_par' ?_ | with_reducible refine x_retN ?_ | with_reducible refine x_brk ?_ | with_reducible refine x_cont ?_ | with_reducible refine x_rz ?_
  | with_reducible refine l_leS ?_ | with_reducible refine l_ltS ?_ | with_reducible refine l_inX ?_ | with_reducible refine l_niX ?_ | with_reducible refine l_inS ?_ | with_reducible refine l_niS ?_ | with_reducible refine l_count ?_ | with_reducible refine l_ord ?_ | with_reducible refine l_max ?_ | with_reducible refine l_min ?_ | with_reducible refine l_intI ?_ | with_reducible refine l_intB ?_ | with_reducible refine l_is ?_ | with_reducible refine l_isn ?_
  | with_reducible refine g_modNL (by decide) ?_ | with_reducible refine g_divNL (by decide) (by decide) ?_ | with_reducible refine l_modI (by decide) ?_ | with_reducible refine x_for ?_ | with_reducible refine x_lc ?_ | with_reducible refine x_ilist ?_ | with_reducible refine x_itup ?_ | with_reducible refine x_istr ?_ | with_reducible refine x_istr' ?_ | with_reducible refine x_irng1 ?_ | with_reducible refine x_irng2 ?_
  | (with_reducible refine x_get (by first | assumption | exact Hold.get0 (by assumption) | exact Hold.get1 (by assumption)) (by assumption) (by assumption) (by walk_at "fg") ?_)
  | (with_reducible refine x_ao (by first | assumption | exact Hold.get0 (by assumption) | exact Hold.get1 (by assumption)) (by kernel_rfl) ?_)
  | with_reducible refine x_ienum ?_ | with_reducible refine x_izip ?_ | with_reducible refine x_chain3 ?_
  | (with_reducible refine x_par2 ?_)
  | (with_reducible refine x_par3 ?_) | (with_reducible refine x_par3' ?_)))
abbrev v_PLAIN (c : Ctx) : V := .ref c.aPLAIN
abbrev v_BLANK (c : Ctx) : V := .ref c.aBLANK
abbrev v_MOST_WIDE (_ : Ctx) : V := .int 60
abbrev v_MOST_HIGH (_ : Ctx) : V := .int 40
abbrev v_MOST_KEPT (_ : Ctx) : V := .int 200
abbrev v_LEAST_WIDE (_ : Ctx) : V := .int 2
abbrev v_LEAST_HIGH (_ : Ctx) : V := .int 2
/-- the module's tuples -/
structure Tups (c : Ctx) : Prop where
  blank : ∀ F, Dp c.K F (.ref c.aBLANK) blankCell.data
  plain : ∀ F, Dp c.K F (.ref c.aPLAIN) (penData plainPen)
/-- behind the call the screen at s is S' -/
abbrev ScrTo (c : Ctx) (s : Addr) (F : Hp) (L : List (Addr × HO)) (S' : Scr) (Q : VK) : Prop := ∀ C' F' H', Same F F' → ScrAt c F' C' S' → Hold F' (scrL c s C' S' L) H' → Q .non H'
def sp_Row_init (c : Ctx) : Sp := fun vs H Q _ => ∃ a dx cl b F L, vs = [.ref a, .ref cl, .bl b] ∧ Hold F ((a, .ins c.cRow dx []) :: L) H ∧ ∀ H', Hold F ((a, rowO c dx cl b) :: L) H' → Q .non H'
def sp_blank_row (c : Ctx) : Sp := fun vs H Q _ => ∃ (w : Nat) (F : Hp) (L : List (Addr × HO)), vs = [.int (w : Nat)] ∧ w ≤ 60 ∧ Hold F L H ∧
  ∀ (r : RowC) F' H', Same F F' → r.row = blankRow w → cellsAt c F' r → Hold F' ((r.a, rowO c r.dx r.cl r.row.goes) :: (r.cl, .lst r.vals) :: L) H' → Q (.ref r.a) H'
/-- the screen lies so, wherever its cursor is told to be -/
def StandH (c : Ctx) (s : Addr) (C : ScrC) (S : Scr) (F : Hp) (L : List (Addr × HO)) (H : Hp) : Prop := ∃ r0 c0 : Nat, Hold F (scrL c s C { S with row := r0, column := c0 } L) H
theorem Hold.st {c : Ctx} {s : Addr} {C : ScrC} {S : Scr} {F H : Hp} {L : List (Addr × HO)} (W : Hold F (scrL c s C S L) H) : StandH c s C S F L H := ⟨S.row, S.column, W⟩
def sp_Screen_stand (c : Ctx) : Sp := fun vs H Q _ => ∃ (s : Addr) (C : ScrC) (S : Scr) (r : Int) (k : Int) (F : Hp) (L : List (Addr × HO)), vs = [.ref s, .int r, .int k] ∧ ScrAt c F C S ∧ StandH c s C S F L H ∧ ScrTo c s F L (S.stand r k) Q
def sp_Screen_cut_off (c : Ctx) : Sp := fun vs H Q _ => ∃ (s : Addr) (C : ScrC) (S : Scr) (top : Nat) (F : Hp) (L : List (Addr × HO)), vs = [.ref s, .int (top : Nat)] ∧ top ≤ S.high ∧ ScrAt c F C S ∧ Hold F (scrL c s C S L) H ∧ ScrTo c s F L (S.cutOff top) Q
def sp_Screen_roll (c : Ctx) : Sp := fun vs H Q _ => ∃ (s : Addr) (C : ScrC) (S : Scr) (top many : Nat) (F : Hp) (L : List (Addr × HO)), vs = [.ref s, .int (top : Nat), .int (many : Nat)] ∧ top ≤ S.bottom ∧ ScrAt c F C S ∧ Hold F (scrL c s C S L) H ∧ ScrTo c s F L (S.roll top many) Q
def sp_Screen_roll_down (c : Ctx) : Sp := fun vs H Q _ => ∃ (s : Addr) (C : ScrC) (S : Scr) (top many : Nat) (F : Hp) (L : List (Addr × HO)), vs = [.ref s, .int (top : Nat), .int (many : Nat)] ∧ top ≤ S.bottom ∧ ScrAt c F C S ∧ Hold F (scrL c s C S L) H ∧ ScrTo c s F L (S.rollDown top many) Q
def sp_Screen_down (c : Ctx) : Sp := fun vs H Q _ => ∃ (s : Addr) (C : ScrC) (S : Scr) (F : Hp) (L : List (Addr × HO)), vs = [.ref s] ∧ ScrAt c F C S ∧ Hold F (scrL c s C S L) H ∧ ScrTo c s F L S.down Q
def sp_Screen_up (c : Ctx) : Sp := fun vs H Q _ => ∃ (s : Addr) (C : ScrC) (S : Scr) (F : Hp) (L : List (Addr × HO)), vs = [.ref s] ∧ ScrAt c F C S ∧ Hold F (scrL c s C S L) H ∧ ScrTo c s F L S.up Q
def sp_Screen_put (c : Ctx) : Sp := fun vs H Q _ => ∃ (s : Addr) (C : ScrC) (S : Scr) (n : Nat) (F : Hp) (L : List (Addr × HO)), vs = [.ref s, .str (T [n])] ∧ ScrAt c F C S ∧ Hold F (scrL c s C S L) H ∧ ScrTo c s F L (S.put n) Q
/-- a screen that is not yet begun -/
def fsPart (r w h m p : V) : List (Str × V) := [("reader", r), ("wide", w), ("high", h), ("most", m), ("past", p)]
structure PreAt (c : Ctx) (F : Hp) (C : ScrC) (S : Scr) : Prop where
  w1 : 2 ≤ S.wide
  w2 : S.wide ≤ 60
  h1 : 2 ≤ S.high
  h2 : S.high ≤ 40
  m : S.most ≤ 200
  pl : S.past.length ≤ S.most
  pw : ∀ p ∈ S.past, p.cells.length = S.wide
  rd : S.rd.pre.Wf
  past : C.past.map (·.row) = S.past
  pp : F C.pp = some (.lst (rowRefs C.past))
  pin : ∀ r ∈ C.past, F r.a = some (rowO c r.dx r.cl r.row.goes) ∧ F r.cl = some (.lst r.vals) ∧ cellsAt c F r
def sp_Screen_begin (c : Ctx) : Sp := fun vs H Q _ => ∃ (s : Addr) (C : ScrC) (S : Scr) (fs : List (Str × V)) (F : Hp) (L : List (Addr × HO)), vs = [.ref s] ∧ ((.ins c.cScreen C.dx fs = scrO c C S) ∨ fs = fsPart (.ref C.r) (.int (S.wide : Nat)) (.int (S.high : Nat)) (.int (S.most : Nat)) (.ref C.pp)) ∧ PreAt c F C S ∧
  Hold F ((s, .ins c.cScreen C.dx fs) :: (C.r, rdO c C.rdx S.rd) :: L) H ∧ ScrTo c s F L S.begin Q
def sp_Screen_erase (c : Ctx) : Sp := fun vs H Q _ => ∃ (s : Addr) (C : ScrC) (S : Scr) (w : Nat) (F : Hp) (L : List (Addr × HO)), vs = [.ref s, .str (T [w])] ∧ ScrAt c F C S ∧ Hold F (scrL c s C S L) H ∧ ScrTo c s F L (S.erase w) Q
def sp_Screen_small (c : Ctx) : Sp := fun vs H Q _ => ∃ (s : Addr) (C : ScrC) (S : Scr) (w : Nat) (F : Hp) (L : List (Addr × HO)), vs = [.ref s, .str (T [w])] ∧ ScrAt c F C S ∧ Hold F (scrL c s C S L) H ∧ ScrTo c s F L (S.small w) Q
def sp_Screen_shift (c : Ctx) : Sp := fun vs H Q _ => ∃ (s : Addr) (C : ScrC) (S : Scr) (w : Nat) (many : Nat) (F : Hp) (L : List (Addr × HO)), vs = [.ref s, .str (T [w]), .int (many : Nat)] ∧ many ≤ S.wide - S.column ∧ ScrAt c F C S ∧ Hold F (scrL c s C S L) H ∧ ScrTo c s F L (S.shift w many) Q
def sp_Screen_take_rows (c : Ctx) : Sp := fun vs H Q _ => ∃ (s : Addr) (C : ScrC) (S : Scr) (n : Nat) (F : Hp) (L : List (Addr × HO)), vs = [.ref s, .int (n : Nat)] ∧ S.row ≤ S.bottom ∧ ScrAt c F C S ∧ Hold F (scrL c s C S L) H ∧ ScrTo c s F L (S.takeRows n) Q
def sp_Screen_one (c : Ctx) : Sp := fun vs H Q _ => ∃ (s : Addr) (C : ScrC) (S : Scr) (w : Nat) (n : Nat) (F : Hp) (L : List (Addr × HO)), vs = [.ref s, .str (T [w]), .int (n : Nat)] ∧ ScrAt c F C S ∧ Hold F (scrL c s C S L) H ∧ ScrTo c s F L (S.one w n) Q
def sp_Screen_great (c : Ctx) : Sp := fun vs H Q _ => ∃ (s : Addr) (C : ScrC) (S : Scr) (w : Nat) (ns : List Nat) (q : Addr) (F : Hp) (L : List (Addr × HO)), vs = [.ref s, .str (T [w]), .ref q] ∧ SqT c.K F q (ns.map fun (n : Nat) => V.int n) ∧ ScrAt c F C S ∧ Hold F (scrL c s C S L) H ∧ ScrTo c s F L (S.great w ns) Q
def sp_Screen_do (c : Ctx) : Sp := fun vs H Q _ => ∃ (s : Addr) (C : ScrC) (S : Scr) (t : Tk) (b : Addr) (F : Hp) (L : List (Addr × HO)), vs = [.ref s, .ref b] ∧ Dp c.K F (.ref b) (Tk.data t) ∧ ScrAt c F C S ∧ Hold F (scrL c s C S L) H ∧ ScrTo c s F L (S.act t) Q
def t_Row_init (c : Ctx) (E : XK) : TS :=
  (tSeq (sFld c.K (tVar 0) (tVar 1) "cells")
  (sFld c.K (tVar 0) (tVar 2) "goes_on"))
abbrev N_Row_init : List Str := ["self", "cells", "goes_on"]

def t_blank_row (c : Ctx) (E : XK) : TS :=
  (tRet (tN c.cRow (sp_Row_init c) E0 (tCons (tOp (uMul c.K) (tLst (tCons (tC (v_BLANK c)) tNil)) (tVar 0)) (tCons (tC (.bl false)) tNil))))
abbrev N_blank_row : List Str := ["wide"]

def t_Screen_stand (c : Ctx) (E : XK) : TS :=
  (tSeq (sFld c.K (tVar 0) (tCB uMax (tCons (tC (.int 0)) (tCons (tCB uMin (tCons (tOp uSub (tFld c.K (tVar 0) "high") (tC (.int 1))) (tCons (tVar 1) tNil))) tNil))) "row")
  (tSeq (sFld c.K (tVar 0) (tCB uMax (tCons (tC (.int 0)) (tCons (tCB uMin (tCons (tOp uSub (tFld c.K (tVar 0) "wide") (tC (.int 1))) (tCons (tVar 2) tNil))) tNil))) "column")
  (sFld c.K (tVar 0) (tC (.bl false)) "is_full")))
abbrev N_Screen_stand : List Str := ["self", "row", "column"]

def t_Screen_cut_off (c : Ctx) (E : XK) : TS :=
  (tFor (iTup c.K (tTup (tCons (tOp uSub (tVar 1) (tC (.int 1))) (tCons (tFld c.K (tVar 0) "bottom") tNil)))) (gName 2) (tIfS (tTest (tOp uGe (tVar 2) (tC (.int 0)))) (sFld c.K (tOp (uIx c.K) (tFld c.K (tVar 0) "rows") (tVar 2)) (tC (.bl false)) "goes_on") tNext))
abbrev N_Screen_cut_off : List Str := ["self", "top", "at"]

def t_Screen_roll (c : Ctx) (E : XK) : TS :=
  (tSeq (tAsg (tCB uMin (tCons (tVar 2) (tCons (tOp (uAdd c.K) (tOp uSub (tFld c.K (tVar 0) "bottom") (tVar 1)) (tC (.int 1))) tNil))) (gName 2))
  (C8.tCut (tIfS (tTest (tOp (uEq c.K) (tVar 1) (tC (.int 0)))) (sFld c.K (tVar 0) (tSl (uSl c.K) (tOp (uAdd c.K) (tFld c.K (tVar 0) "past") (tSl (uSl c.K) (tFld c.K (tVar 0) "rows") tNoPart (tPart (tVar 2)))) (tPart (tCB uMax (tCons (tC (.int 0)) (tCons (tOp uSub (tOp (uAdd c.K) (tCB (uLen c.K) (tCons (tFld c.K (tVar 0) "past") tNil)) (tVar 2)) (tFld c.K (tVar 0) "most")) tNil)))) tNoPart) "past") tNext) (tSeq (tAsg (tLc (iRng1 (tCons (tVar 2) tNil)) (gName 4) tYes (tF (sp_blank_row c) E0 (tCons (tFld c.K (tVar 0) "wide") tNil)) [4]) (gName 3))
  (tSeq (sFld c.K (tVar 0) (tOp (uAdd c.K) (tOp (uAdd c.K) (tOp (uAdd c.K) (tSl (uSl c.K) (tFld c.K (tVar 0) "rows") tNoPart (tPart (tVar 1))) (tSl (uSl c.K) (tFld c.K (tVar 0) "rows") (tPart (tOp (uAdd c.K) (tVar 1) (tVar 2))) (tPart (tOp (uAdd c.K) (tFld c.K (tVar 0) "bottom") (tC (.int 1)))))) (tVar 3)) (tSl (uSl c.K) (tFld c.K (tVar 0) "rows") (tPart (tOp (uAdd c.K) (tFld c.K (tVar 0) "bottom") (tC (.int 1)))) tNoPart)) "rows")
  (tDrop (tO c.cScreen "cut_off" (sp_Screen_cut_off c) E0 (tVar 0) (tCons (tVar 1) tNil)))))))
abbrev N_Screen_roll : List Str := ["self", "top", "many", "fresh", "at"]

def t_Screen_roll_down (c : Ctx) (E : XK) : TS :=
  (tSeq (tAsg (tCB uMin (tCons (tVar 2) (tCons (tOp (uAdd c.K) (tOp uSub (tFld c.K (tVar 0) "bottom") (tVar 1)) (tC (.int 1))) tNil))) (gName 2))
  (tSeq (tAsg (tLc (iRng1 (tCons (tVar 2) tNil)) (gName 4) tYes (tF (sp_blank_row c) E0 (tCons (tFld c.K (tVar 0) "wide") tNil)) [4]) (gName 3))
  (tSeq (tAsg (tSl (uSl c.K) (tFld c.K (tVar 0) "rows") (tPart (tVar 1)) (tPart (tOp uSub (tOp (uAdd c.K) (tFld c.K (tVar 0) "bottom") (tC (.int 1))) (tVar 2)))) (gName 5))
  (tSeq (sFld c.K (tVar 0) (tOp (uAdd c.K) (tOp (uAdd c.K) (tOp (uAdd c.K) (tSl (uSl c.K) (tFld c.K (tVar 0) "rows") tNoPart (tPart (tVar 1))) (tVar 3)) (tVar 5)) (tSl (uSl c.K) (tFld c.K (tVar 0) "rows") (tPart (tOp (uAdd c.K) (tFld c.K (tVar 0) "bottom") (tC (.int 1)))) tNoPart)) "rows")
  (tDrop (tO c.cScreen "cut_off" (sp_Screen_cut_off c) E0 (tVar 0) (tCons (tVar 1) tNil)))))))
abbrev N_Screen_roll_down : List Str := ["self", "top", "many", "fresh", "at", "left"]

def t_Screen_down (c : Ctx) (E : XK) : TS :=
  (tIfS (tTest (tOp (uEq c.K) (tFld c.K (tVar 0) "row") (tFld c.K (tVar 0) "bottom"))) (tDrop (tO c.cScreen "roll" (sp_Screen_roll c) E0 (tVar 0) (tCons (tFld c.K (tVar 0) "top") (tCons (tC (.int 1)) tNil)))) (tIfS (tTest (tOp uLt (tFld c.K (tVar 0) "row") (tOp uSub (tFld c.K (tVar 0) "high") (tC (.int 1))))) (sFld c.K (tVar 0) (tOp (uAdd c.K) (tFld c.K (tVar 0) "row") (tC (.int 1))) "row") tNext))
abbrev N_Screen_down : List Str := ["self"]

def t_Screen_up (c : Ctx) (E : XK) : TS :=
  (tIfS (tTest (tOp (uEq c.K) (tFld c.K (tVar 0) "row") (tFld c.K (tVar 0) "top"))) (tDrop (tO c.cScreen "roll_down" (sp_Screen_roll_down c) E0 (tVar 0) (tCons (tFld c.K (tVar 0) "top") (tCons (tC (.int 1)) tNil)))) (tIfS (tTest (tOp uGt (tFld c.K (tVar 0) "row") (tC (.int 0)))) (sFld c.K (tVar 0) (tOp uSub (tFld c.K (tVar 0) "row") (tC (.int 1))) "row") tNext))
abbrev N_Screen_up : List Str := ["self"]

section
variable {c : Ctx}
theorem rd_Row_init (R : FRow c) : RD N_Row_init (t_Row_init c) (sp_Row_init c) := by
  obtain ⟨cl, n1, n2⟩ := R
  rintro vs H Q E ⟨a, dx, x, b, F, L, rfl, W, kk⟩
  unfold t_Row_init
  walk_at "r"
  refine x_put0 W cl n1 (by show 0 < 1000; decide) rfl fun H1 W1 => ?_
  walk_at "r"
  refine x_put0 W1 cl n2 (by show 1 < 1000; decide) rfl fun H2 W2 => ?_
  walk_at "r"
  exact kk H2 W2
theorem dp_rep {K : PySem.W.Frag} {F : Hp} {v : V} {d : PyData} (h : Dp K F v d) : ∀ n, DpAll K F (List.replicate n v) (List.replicate n d)
  | 0 => .nil
  | n + 1 => .cons h (dp_rep h n)
theorem rd_blank_row (U : Tups c) : RD N_blank_row (t_blank_row c) (sp_blank_row c) := by
  rintro vs H Q E ⟨w, F, L, rfl, hw, W, kk⟩
  unfold t_blank_row
  walk_at "r"
  refine n_lstL W (sz rfl) fun p H1 W1 => ?_
  walk_at "r"
  refine n_mul1L W1 W1.get0 (by omega) (fun q H2 W2 => ?_) (by omega)
  rw [Int.toNat_natCast] at W2
  walk_at "r"
  have W3 : Hold F ((q, .lst (List.replicate w (.ref c.aBLANK))) :: L) H2 := W2.sub (List.Sublist.cons₂ _ (List.sublist_cons_self _ _))
  refine x_an W3 fun x dx H4 W4 => ?_
  refine ⟨x, dx, q, false, F, _, rfl, W4, fun H5 W5 => ⟨rfl, ?_⟩⟩
  refine kk ⟨x, dx, q, List.replicate w (.ref c.aBLANK), blankRow w⟩ F H5 (Same.refl F) rfl ?_ W5
  show DpAll c.K F _ ((List.replicate w blankCell).map Cell.data)
  rw [List.map_replicate]
  exact dp_rep (U.blank F) w
theorem stand_wf {S : Scr} (w : S.Wf) (r k : Int) : (S.stand r k).Wf := by
  have h1 := w.w1
  have h2 := w.h1
  exact ⟨w.w1, w.w2, w.h1, w.h2, w.m, w.rl, w.rw, w.pl, w.pw, by show (max 0 (min ((S.high : Int) - 1) r)).toNat < S.high; omega, by show (max 0 (min ((S.wide : Int) - 1) k)).toNat < S.wide; omega, w.tb, w.bh, w.rd⟩
theorem rd_Screen_stand (R : FScreen c) : RD N_Screen_stand (t_Screen_stand c) (sp_Screen_stand c) := by
  have cl := R.cl
  have n1 := R.n_row
  have n2 := R.n_column
  have n3 := R.n_is_full
  have n4 := R.n_high
  have n5 := R.n_wide
  rintro vs H Q E ⟨s, C, S, r, k, F, L, rfl, A, ⟨r0, c0, W⟩, kk⟩
  unfold t_Screen_stand
  walk_at "r"
  refine x_put0 W cl n1 fsScreen_len fsScreen_p6 fun H1 W1 => ?_
  walk_at "r"
  refine x_put0 W1 cl n2 fsScreen_len fsScreen_p7 fun H2 W2 => ?_
  walk_at "r"
  refine x_put0 W2 cl n3 fsScreen_len fsScreen_p8 fun H3 W3 => ?_
  walk_at "r"
  have wf := stand_wf A.wf r k
  have e1 : max 0 (min ((S.high : Int) - 1) r) = (((S.stand r k).row : Nat) : Int) := (Int.toNat_of_nonneg (by omega)).symm
  have e2 : max 0 (min ((S.wide : Int) - 1) k) = (((S.stand r k).column : Nat) : Int) := (Int.toNat_of_nonneg (by omega)).symm
  rw [e1, e2] at W3
  exact kk C F H3 (Same.refl F) ⟨wf, A.rows, A.past, A.vals, A.pr, A.pp, A.pin, A.pen, A.pb⟩ W3
theorem row_of {C : ScrC} {S : Scr} {F : Hp} {i : Nat} (A : ScrAt c F C S) (hi : i < S.high) : ∃ r, C.rows[i]? = some r ∧ (rowRefs C.rows).getD i .non = .ref r.a ∧ r ∈ C.rows ∧ S.rowAt i = r.row ∧ i < C.rows.length := by
  have hl : i < C.rows.length := by rw [A.len]; exact hi
  have h : C.rows[i]? = some C.rows[i] := List.getElem?_eq_getElem hl
  refine ⟨_, h, ?_, List.getElem_mem hl, A.rowAt h, hl⟩
  unfold rowRefs
  rw [List.getD_eq_getElem?_getD, List.getElem?_map, h]; rfl
theorem refs_len {C : ScrC} {S : Scr} {F : Hp} (A : ScrAt c F C S) : (rowRefs C.rows).length = S.high := by
  unfold rowRefs; rw [List.length_map, A.len]
/-- self.rows[i] -/
theorem x_rowIx {C : ScrC} {S : Scr} {F H : Hp} {L : List (Addr × HO)} {Q : VK} {i : Nat} {r : RowC} (A : ScrAt c F C S) (W : Hold F L H) (h : C.rows[i]? = some r) (q : Q (.ref r.a) H) : uIx c.K (.ref C.pr) (.int (i : Nat)) H Q := by
  have hi : i < (rowRefs C.rows).length := by unfold rowRefs; rw [List.length_map]; exact (List.getElem?_eq_some_iff.mp h).1
  refine g_ixL (sq_of (W.old _ _ A.pr)) hi ?_
  have e : (rowRefs C.rows).getD i .non = .ref r.a := by unfold rowRefs; rw [List.getD_eq_getElem?_getD, List.getElem?_map, h]; rfl
  rw [e]; exact q
theorem ScrAt.setRow {C : ScrC} {S : Scr} {F : Hp} {i : Nat} {r r' : RowC} (A : ScrAt c F C S) (h : C.rows[i]? = some r) (ha : r'.a = r.a) (hc : cellsAt c F r') (hl : r'.row.cells.length = S.wide) : ScrAt c F { C with rows := C.rows.set i r' } (S.setRow i r'.row) := by
  have w := A.wf
  refine ⟨⟨w.w1, w.w2, w.h1, w.h2, w.m, ?_, fun p hp => ?_, w.pl, w.pw, w.row, w.column, w.tb, w.bh, w.rd⟩, ?_, A.past, fun x hx => ?_, ?_, A.pp, A.pin, A.pen, A.pb⟩
  · show (S.rows.set i r'.row).length = S.high
    rw [List.length_set, w.rl]
  · rcases List.mem_or_eq_of_mem_set hp with h1 | rfl
    · exact w.rw p h1
    · exact hl
  · show (C.rows.set i r').map (·.row) = S.rows.set i r'.row
    rw [List.map_set, A.rows]
  · rcases List.mem_or_eq_of_mem_set hx with h1 | rfl
    · exact A.vals x h1
    · exact hc
  · show F C.pr = some (.lst (rowRefs (C.rows.set i r')))
    rw [map_set_same h ha]; exact A.pr
theorem setGoes_eq {C : ScrC} {S : Scr} {F : Hp} {i : Nat} {r : RowC} (A : ScrAt c F C S) (h : C.rows[i]? = some r) (b : Bool) : S.setGoes i b = S.setRow i { r.row with goes := b } := by
  unfold Scr.setGoes; rw [A.rowAt h]
/-- rows[i].goes_on = b -/
theorem x_goes {C : ScrC} {S : Scr} {F H : Hp} {L : List (Addr × HO)} {QH : Hp → Prop} {i : Nat} {r : RowC} {s : Addr} {b : Bool} (R : FRow c) (A : ScrAt c F C S) (W : Hold F (scrL c s C S L) H) (h : C.rows[i]? = some r)
    (k : ∀ C' H', ScrAt c F C' (S.setGoes i b) → Hold F (scrL c s C' (S.setGoes i b) L) H' → QH H') : aPut c.K (.ref r.a) (.bl b) "goes_on" H QH := by
  have hl : i < C.rows.length := (List.getElem?_eq_some_iff.mp h).1
  refine x_put0 (W.row2 h) R.cl R.n_goes_on fsRow_len fsRow_p1 fun H' W' => ?_
  refine k { C with rows := C.rows.set i { r with row := { r.row with goes := b } } } H' ?_ ?_
  · rw [setGoes_eq A h]
    exact A.setRow (r' := { r with row := { r.row with goes := b } }) h rfl (A.vals r (List.mem_of_getElem? h)) (A.wf.rw r.row (by rw [← A.rows]; exact List.mem_map_of_mem (List.mem_of_getElem? h)))
  · rw [setGoes_eq A h]
    exact Hold.row2Back (C := C) (r' := { r with row := { r.row with goes := b } }) W' hl
def cutN (S : Scr) (top : Nat) : Nat → Scr
  | 0 => S
  | 1 => if 1 ≤ top then S.setGoes (top - 1) false else S
  | _ => S.cutOff top
theorem rd_Screen_cut_off (R : FScreen c) (RR : FRow c) : RD N_Screen_cut_off (t_Screen_cut_off c) (sp_Screen_cut_off c) := by
  have cl := R.cl
  have n1 := R.n_bottom
  have n2 := R.n_rows
  rintro vs H Q E ⟨s, C, S, top, F, L, rfl, ht, A, W, kk⟩
  unfold t_Screen_cut_off
  walk_at "r"
  refine n_tupF W (sz rfl) fun p F1 H1 s1 h1 W1 => ?_
  refine x_itup' (st_of (W1.old _ _ h1)) ?_
  have hb := A.wf.bh
  refine x_forOk (F := F1) (ItOk.tup (st_of h1)) (fun i σ H' => ∃ s2 C', σ = [some (.ref s), some (.int (top : Nat)), s2] ∧ ScrAt c F1 C' (cutN S top i) ∧ Hold F1 (scrL c s C' (cutN S top i) L) H')
    (fun i σ H' _ ⟨_, _, _, _, W'⟩ => W'.gr) ⟨none, C, rfl, A.gr (Gr.of s1), W1⟩ ?_ ?_
  · rintro i σ H' hi ⟨s2, C', rfl, A', W'⟩
    have hi2 : i < 2 := hi
    rcases (show i = 0 ∨ i = 1 by omega) with rfl | rfl
    · show gName 2 (.int ((top : Int) - 1)) _ _ _
      walk_at "r"
      refine wD (fun h => ?_) (fun h => ?_)
      · have e : (top : Int) - 1 = ((top - 1 : Nat) : Int) := by omega
        rw [e]
        obtain ⟨r, h2, _⟩ := row_of A' (i := top - 1) (by show top - 1 < S.high; omega)
        walk_at "r"
        refine x_rowIx A' W' h2 ?_
        refine x_goes RR A' W' h2 fun C2 H2 A2 W2 => ?_
        have e2 : cutN S top 1 = (cutN S top 0).setGoes (top - 1) false := if_pos (show 1 ≤ top by omega)
        rw [← e2] at A2 W2
        exact ⟨_, C2, rfl, A2, W2⟩
      · walk_at "r"
        have e2 : cutN S top 1 = cutN S top 0 := if_neg (show ¬ 1 ≤ top by omega)
        rw [← e2] at A' W'
        exact ⟨_, C', rfl, A', W'⟩
    · show gName 2 (.int (S.bottom : Nat)) _ _ _
      walk_at "r"
      refine wD (fun h => ?_) (fun h => absurd (Int.natCast_nonneg _) h)
      have hh : (cutN S top 1).high = S.high := by show (if 1 ≤ top then S.setGoes (top - 1) false else S).high = S.high; split <;> rfl
      obtain ⟨r, h2, _⟩ := row_of A' (i := S.bottom) (by rw [hh]; exact hb)
      walk_at "r"
      refine x_rowIx A' W' h2 ?_
      refine x_goes RR A' W' h2 fun C2 H2 A2 W2 => ?_
      have e2 : cutN S top (1 + 1) = (cutN S top 1).setGoes S.bottom false := by
        show S.cutOff top = _
        rfl
      rw [← e2] at A2 W2
      exact ⟨_, C2, rfl, A2, W2⟩
  · rintro σ H' ⟨s2, C', rfl, A', W'⟩
    walk_at "r"
    exact kk C' F1 H' s1 A' W'
theorem ownR_perm {l m : List RowC} (h : List.Perm l m) : List.Perm (ownR c l) (ownR c m) := by
  induction h with
  | nil => exact .refl _
  | cons x _ ih => exact (ih.cons _).cons _
  | swap x y l => exact List.perm_append_comm_assoc [_, _] [_, _] _
  | trans _ _ a b => exact a.trans b
theorem ownR_mem {l : List RowC} {r : RowC} (h : r ∈ l) : (r.a, rowO c r.dx r.cl r.row.goes) ∈ ownR c l ∧ (r.cl, HO.lst r.vals) ∈ ownR c l := by
  induction l with
  | nil => cases h
  | cons x l ih =>
    show _ ∈ _ :: _ :: ownR c l ∧ _ ∈ _ :: _ :: ownR c l
    rcases List.mem_cons.mp h with rfl | h
    · exact ⟨List.mem_cons_self, List.mem_cons_of_mem _ List.mem_cons_self⟩
    · exact ⟨List.mem_cons_of_mem _ (List.mem_cons_of_mem _ (ih h).1), List.mem_cons_of_mem _ (List.mem_cons_of_mem _ (ih h).2)⟩
/-- fresh blank rows -/
theorem x_fresh {σ : L2.St} {F H : Hp} {x y : Addr × HO} {L : List (Addr × HO)} {Q : VK} {J : It} {n w j : Nat} {item : Nat → V} {s dx : Addr} {fs : List (Str × V)} (R : FScreen c) (ok : ItOk J F n item) (W : Hold F (x :: y :: L) H) (hx : x = (s, .ins c.cScreen dx fs))
    (hw : fs.lookup ("wide" : Str) = some (V.int ((w : Nat) : Int))) (hw2 : w ≤ 60) (hn : n ≤ 1000) (hj : 0 < j) (h0 : σ[0]? = some (some (.ref s)))
    (dn : ∀ (D : Addr) (fr : List RowC) (F' H' : Hp), Same F F' → fr.length = n → (∀ r ∈ fr, r.row = blankRow w ∧ cellsAt c F' r) → F' D = some (.lst (rowRefs fr)) → Hold F' (x :: y :: (ownR c fr ++ L)) H' → Q (.ref D) H') :
    aLc J (gName j) tYes (tF (sp_blank_row c) E0 (tCons (tFld c.K (tVar 0) "wide") tNil)) [j] σ H Q := by
  have cl := R.cl
  have n1 := R.n_wide
  have h0' : (σ.set j none)[0]? = some (some (.ref s)) := by rw [List.getElem?_set_ne (by omega)]; exact h0
  refine x_lcG (F := F) ok W (by omega) (fun i ys F' L' => ∃ fr : List RowC, fr.length = i ∧ ys = rowRefs fr ∧ (∀ r ∈ fr, r.row = blankRow w ∧ cellsAt c F' r) ∧ List.Perm L' (ownR c fr ++ (x :: y :: L))) ⟨[], rfl, rfl, fun _ h => (nomatch h), .refl _⟩
    (fun d i ys F' L' H' QQ hi s1 P W' kq => ?_) gm_name (fun D ys F' H' L' s1 hl P W' => ?_)
  · obtain ⟨fr, hfl, rfl, hfr, hp⟩ := P
    refine ⟨wipe1, ?_⟩
    refine x_f (x_cons (x_fld (x_var (v := .ref s) ?_ ?_)))
    · show ((σ.set j none).set j _)[0]? = _
      rw [List.getElem?_set_ne (by omega)]; exact h0'
    refine x_get (C := c.cScreen) (dx := dx) (fs := fs) ?_ cl n1 hw ?_
    · refine W'.own (s, _) (List.mem_append_left _ (hp.mem_iff.mpr (List.mem_append_right _ ?_)))
      rw [← hx]; exact List.mem_cons_self
    refine x_nil ⟨w, F', L' ++ [d], rfl, hw2, W', fun r F4 H4 s4 hr hc W4 => ?_⟩
    refine kq (.ref r.a) F4 ((r.a, rowO c r.dx r.cl r.row.goes) :: (r.cl, .lst r.vals) :: L') H4 s4 W4 ⟨fr ++ [r], by rw [List.length_append, hfl]; rfl, by unfold rowRefs; rw [List.map_append]; rfl, fun z hz => ?_, ?_⟩
    · rcases List.mem_append.mp hz with h | h
      · exact ⟨(hfr z h).1, (Gr.of s4).dpAll (hfr z h).2⟩
      · rw [List.mem_singleton.mp h]; exact ⟨hr, hc⟩
    · refine ((hp.cons _).cons _).trans ?_
      rw [ownR_app, List.append_assoc]
      exact List.perm_append_comm_assoc [(r.a, rowO c r.dx r.cl r.row.goes), (r.cl, HO.lst r.vals)] (ownR c fr) _
  · obtain ⟨fr, hfl, rfl, hfr, hp⟩ := P
    have W2 : Hold F' ((D, .lst (rowRefs fr)) :: x :: y :: (ownR c fr ++ L)) H' := W'.perm ((hp.trans (List.perm_append_comm_assoc (ownR c fr) [x, y] L)).cons _)
    refine dn D fr _ H' (s1.trans W2.freezeS) hfl (fun r hr => ⟨(hfr r hr).1, (Gr.of W2.freezeS).dpAll (hfr r hr).2⟩) upd_same W2.freeze
theorem rolled_wf {S : Scr} (w : S.Wf) {top n : Nat} (ht : top ≤ S.bottom) (hn : n ≤ S.bottom + 1 - top) : (S.rolled top n).Wf := by
  have h1 := w.rl
  have h2 := w.bh
  have h3 := w.pl
  refine ⟨w.w1, w.w2, w.h1, w.h2, w.m, ?_, fun p hp => ?_, ?_, fun p hp => ?_, w.row, w.column, w.tb, w.bh, w.rd⟩
  · show (S.rows.take top ++ (S.rows.drop (top + n)).take (S.bottom + 1 - (top + n)) ++ List.replicate n (blankRow S.wide) ++ S.rows.drop (S.bottom + 1)).length = S.high
    simp only [List.length_append, List.length_take, List.length_drop, List.length_replicate]
    omega
  · have hp' : p ∈ S.rows.take top ++ (S.rows.drop (top + n)).take (S.bottom + 1 - (top + n)) ++ List.replicate n (blankRow S.wide) ++ S.rows.drop (S.bottom + 1) := hp
    show p.cells.length = S.wide
    simp only [List.mem_append] at hp'
    rcases hp' with ((h | h) | h) | h
    · exact w.rw p (List.mem_of_mem_take h)
    · exact w.rw p (List.mem_of_mem_drop (List.mem_of_mem_take h))
    · rw [List.eq_of_mem_replicate h]; exact List.length_replicate
    · exact w.rw p (List.mem_of_mem_drop h)
  · show (if top = 0 then (S.past ++ S.rows.take n).drop (S.past.length + n - S.most) else S.past).length ≤ S.most
    split
    · simp only [List.length_append, List.length_take, List.length_drop]; omega
    · exact h3
  · have hp' : p ∈ (if top = 0 then (S.past ++ S.rows.take n).drop (S.past.length + n - S.most) else S.past) := hp
    show p.cells.length = S.wide
    split at hp'
    · rcases List.mem_append.mp (List.mem_of_mem_drop hp') with h | h
      · exact w.pw p h
      · exact w.rw p (List.mem_of_mem_take h)
    · exact w.pw p hp'
section
variable {K : PySem.W.Frag} {F H : Hp} {L : List (Addr × HO)} {Q : VK} {p q : Addr} {l m : List RowC} {i j : Nat}
theorem n_rowsTo (W : Hold F L H) (hp : F p = some (.lst (rowRefs l))) (k : ∀ (r : Addr) (F' H' : Hp), Same F F' → F' r = some (.lst (rowRefs (l.take i))) → Hold F' L H' → Q (.ref r) H') : uSl K (.ref p) none (some (i : Int)) H Q :=
  n_slF W (sq_of (W.old _ _ hp)) fun r F' H' s h W' => k r F' H' s (by rw [cutV_L, cutL_to] at h; rw [h]; unfold rowRefs; rw [List.map_take]) W'
theorem n_rowsFrom (W : Hold F L H) (hp : F p = some (.lst (rowRefs l))) (k : ∀ (r : Addr) (F' H' : Hp), Same F F' → F' r = some (.lst (rowRefs (l.drop i))) → Hold F' L H' → Q (.ref r) H') : uSl K (.ref p) (some (i : Int)) none H Q :=
  n_slF W (sq_of (W.old _ _ hp)) fun r F' H' s h W' => k r F' H' s (by rw [cutV_L, cutL_from] at h; rw [h]; unfold rowRefs; rw [List.map_drop]) W'
theorem n_rowsMid (W : Hold F L H) (hp : F p = some (.lst (rowRefs l))) (k : ∀ (r : Addr) (F' H' : Hp), Same F F' → F' r = some (.lst (rowRefs ((l.drop i).take (j - i)))) → Hold F' L H' → Q (.ref r) H') : uSl K (.ref p) (some (i : Int)) (some (j : Int)) H Q :=
  n_slF W (sq_of (W.old _ _ hp)) fun r F' H' s h W' => k r F' H' s (by rw [cutV_L, cutL_mid] at h; rw [h]; unfold rowRefs; rw [List.map_take, List.map_drop]) W'
theorem n_rowsAdd (W : Hold F L H) (hp : F p = some (.lst (rowRefs l))) (hq : F q = some (.lst (rowRefs m))) (hl : l.length + m.length ≤ 1000) (k : ∀ (r : Addr) (F' H' : Hp), Same F F' → F' r = some (.lst (rowRefs (l ++ m))) → Hold F' L H' → Q (.ref r) H') : uAdd K (.ref p) (.ref q) H Q :=
  n_addF W (W.old _ _ hp) (W.old _ _ hq) (by unfold rowRefs; rw [List.length_map, List.length_map]; exact szl (by omega)) fun r F' H' s h W' => k r F' H' s (by rw [h]; unfold rowRefs; rw [List.map_append]) W'
end
theorem rd_Screen_roll (R : FScreen c) : RD N_Screen_roll (t_Screen_roll c) (sp_Screen_roll c) := by
  have cl := R.cl
  have n1 := R.n_bottom
  have n2 := R.n_rows
  have n3 := R.n_past
  have n4 := R.n_most
  have n5 := R.n_wide
  rintro vs H Q E ⟨s, C, S, top, many, F, L, rfl, ht, A, W, kk⟩
  have wf := A.wf
  have bh := wf.bh
  have hh := wf.h2
  have hm := wf.m
  have hlen := A.len
  have hpl := A.plen
  unfold t_Screen_roll
  walk_at "r"
  have e : min ((many : Nat) : Int) ((S.bottom : Int) - top + 1) = ((min many (S.bottom + 1 - top) : Nat) : Int) := by omega
  rw [e]
  have ek : S.roll top many = (S.rolled top (min many (S.bottom + 1 - top))).cutOff top := rfl
  rw [ek] at kk
  have hn : min many (S.bottom + 1 - top) ≤ S.bottom + 1 - top := Nat.min_le_right _ _
  generalize min many (S.bottom + 1 - top) = n at kk hn
  walk_at "r"
  refine x_cut (fun σ' H' => ∃ F1 pp1 past1, σ' = [some (.ref s), some (.int (top : Nat)), some (.int (n : Nat)), none, none] ∧ Same F F1 ∧ F1 pp1 = some (.lst (rowRefs past1)) ∧ past1 = (if top = 0 then (C.past ++ C.rows.take n).drop (C.past.length + n - S.most) else C.past) ∧
    Hold F1 ((s, scrO c { C with pp := pp1 } S) :: (C.r, rdO c C.rdx S.rd) :: (ownR c C.rows ++ L)) H') ?_ ?_
  · walk_at "r"
    refine wD (fun h0 => ?_) (fun h0 => ?_)
    · walk_at "r"
      refine n_rowsTo W A.pr fun q1 F1 H1 s1 h1 W1 => ?_
      refine n_rowsAdd W1 (s1 _ _ A.pp) h1 (by rw [List.length_take]; omega) fun q2 F2 H2 s2 h2 W2 => ?_
      walk_at "r"
      refine l_lenL (sq_of (W2.old _ _ (s2 _ _ (s1 _ _ A.pp)))) ?_
      walk_at "r"
      have e2 : max 0 (((rowRefs C.past).length + n : Nat) - (S.most : Int)) = ((C.past.length + n - S.most : Nat) : Int) := by
        unfold rowRefs
        rw [List.length_map]; omega
      rw [e2]
      refine n_rowsFrom W2 h2 fun q3 F3 H3 s3 h3 W3 => ?_
      walk_at "r"
      refine x_put0 W3 cl n3 fsScreen_len fsScreen_p4 fun H4 W4 => ?_
      walk_at "r"
      exact ⟨F3, q3, _, rfl, (s1.trans s2).trans s3, h3, (if_pos h0).symm, W4⟩
    · walk_at "r"
      exact ⟨F, C.pp, C.past, rfl, Same.refl F, A.pp, (if_neg h0).symm, W⟩
  · rintro σ' H' ⟨F1, pp1, past1, rfl, s1, hpp, hpast, W1⟩
    walk_at "r"
    refine x_irng1' (by omega) (by omega) ?_
    rw [Int.toNat_natCast]
    refine x_fresh R ItOk.rng W1 rfl fsScreen_g1 wf.w2 (by omega) (by decide) rfl fun D fr F2 H2 s2 hfl hfr hD W2 => ?_
    walk_at "r"
    have hpr : F2 C.pr = some (.lst (rowRefs C.rows)) := s2 _ _ (s1 _ _ A.pr)
    refine n_rowsTo W2 hpr fun a1 F3 H3 s3 h3 W3 => ?_
    walk_at "r"
    refine n_rowsMid W3 (s3 _ _ hpr) fun a2 F4 H4 s4 h4 W4 => ?_
    refine n_rowsAdd W4 (s4 _ _ h3) h4 (by simp only [List.length_take, List.length_drop]; omega) fun a3 F5 H5 s5 h5 W5 => ?_
    walk_at "r"
    have s25 : Same F2 F5 := (s3.trans s4).trans s5
    refine n_rowsAdd W5 h5 (s25 _ _ hD) (by simp only [List.length_append, List.length_take, List.length_drop]; omega) fun a4 F6 H6 s6 h6 W6 => ?_
    walk_at "r"
    have s26 : Same F2 F6 := s25.trans s6
    refine n_rowsFrom W6 (s26 _ _ hpr) fun a5 F7 H7 s7 h7 W7 => ?_
    refine n_rowsAdd W7 (s7 _ _ h6) h7 (by simp only [List.length_append, List.length_take, List.length_drop]; omega) fun a6 F8 H8 s8 h8 W8 => ?_
    walk_at "r"
    have s28 : Same F2 F8 := (s26.trans s7).trans s8
    refine x_put0 W8 cl n2 fsScreen_len fsScreen_p5 fun H9 W9 => ?_
    walk_at "r"
    have pm : List.Perm (fr ++ C.rows) ((C.rows.drop top).take n ++ (C.rows.take top ++ (C.rows.drop (top + n)).take (S.bottom + OfNat.ofNat 1 - (top + n)) ++ fr ++ C.rows.drop (S.bottom + OfNat.ofNat 1))) := by
      have e1 : C.rows = C.rows.take top ++ ((C.rows.drop top).take n ++ ((C.rows.drop (top + n)).take (S.bottom + OfNat.ofNat 1 - (top + n)) ++ C.rows.drop (S.bottom + OfNat.ofNat 1))) := by
        have a1 : C.rows.drop (S.bottom + OfNat.ofNat 1) = (C.rows.drop (top + n)).drop (S.bottom + OfNat.ofNat 1 - (top + n)) := by
          rw [List.drop_drop]; congr 1; show S.bottom + 1 = top + n + (S.bottom + 1 - (top + n)); omega
        have a2 : C.rows.drop (top + n) = (C.rows.drop top).drop n := by rw [List.drop_drop]
        rw [a1, List.take_append_drop, a2, List.take_append_drop, List.take_append_drop]
      generalize (C.rows.drop top).take n = lv at e1 ⊢
      generalize C.rows.take top = tk at e1 ⊢
      generalize (C.rows.drop (top + n)).take (S.bottom + OfNat.ofNat 1 - (top + n)) = md at e1 ⊢
      generalize C.rows.drop (S.bottom + OfNat.ofNat 1) = tl at e1 ⊢
      rw [e1]
      haveI : DecidableEq RowC := fun _ _ => Classical.propDecidable _
      exact List.perm_iff_count.mpr fun a => by simp only [List.count_append]; omega
    have W10 : Hold F8 (ownR c ((C.rows.drop top).take n) ++ ((s, scrO c { C with pp := pp1, pr := a6 } S) :: (C.r, rdO c C.rdx S.rd) :: (ownR c (C.rows.take top ++ (C.rows.drop (top + n)).take (S.bottom + OfNat.ofNat 1 - (top + n)) ++ fr ++ C.rows.drop (S.bottom + OfNat.ofNat 1)) ++ L))) H9 := by
      refine W9.perm ?_
      have p1 := (ownR_perm (c := c) pm).append_right L
      rw [ownR_app, ownR_app, List.append_assoc, List.append_assoc] at p1
      exact ((p1.cons _).cons _).trans (List.perm_append_comm_assoc [_, _] (ownR c ((C.rows.drop top).take n)) _)
    obtain ⟨F9, s9, W11, hpin⟩ := Hold.freezeL _ W10
    have s19 : Same F1 F9 := (s2.trans s28).trans s9
    have s09 : Same F F9 := s1.trans s19
    have A' : ScrAt c F9 { C with pp := pp1, pr := a6, past := past1, rows := C.rows.take top ++ (C.rows.drop (top + n)).take (S.bottom + OfNat.ofNat 1 - (top + n)) ++ fr ++ C.rows.drop (S.bottom + OfNat.ofNat 1) } (S.rolled top n) := by
      have inR : ∀ r, r ∈ C.rows → cellsAt c F9 r := fun r hr => (Gr.of s09).dpAll (A.vals r hr)
      refine ⟨rolled_wf wf ht hn, ?_, ?_, fun r hr => ?_, s9 _ _ h8, s19 _ _ hpp, fun r hr => ?_, (Gr.of s09).dp A.pen, ?_⟩
      · show (C.rows.take top ++ (C.rows.drop (top + n)).take (S.bottom + 1 - (top + n)) ++ fr ++ C.rows.drop (S.bottom + 1)).map (·.row) = S.rows.take top ++ (S.rows.drop (top + n)).take (S.bottom + 1 - (top + n)) ++ List.replicate n (blankRow S.wide) ++ S.rows.drop (S.bottom + 1)
        have ef : fr.map (·.row) = List.replicate n (blankRow S.wide) := List.eq_replicate_iff.mpr ⟨by rw [List.length_map, hfl], fun p hp => by obtain ⟨r, hr, rfl⟩ := List.mem_map.mp hp; exact (hfr r hr).1⟩
        rw [List.map_append, List.map_append, List.map_append, ef, List.map_take, List.map_take, List.map_drop, List.map_drop, A.rows]
      · show past1.map (·.row) = (if top = 0 then (S.past ++ S.rows.take n).drop (S.past.length + n - S.most) else S.past)
        rw [hpast]
        have el : C.past.length = S.past.length := by rw [← A.past, List.length_map]
        split
        · rw [List.map_drop, List.map_append, List.map_take, A.rows, A.past, el]
        · exact A.past
      · simp only [List.mem_append] at hr
        rcases hr with ((h | h) | h) | h
        · exact inR r (List.mem_of_mem_take h)
        · exact inR r (List.mem_of_mem_drop (List.mem_of_mem_take h))
        · exact (Gr.of (s28.trans s9)).dpAll (hfr r h).2
        · exact inR r (List.mem_of_mem_drop h)
      · have old : r ∈ C.past → F9 r.a = some (rowO c r.dx r.cl r.row.goes) ∧ F9 r.cl = some (.lst r.vals) ∧ cellsAt c F9 r := fun h => by
          obtain ⟨x1, x2, x3⟩ := A.pin r h
          exact ⟨s09 _ _ x1, s09 _ _ x2, (Gr.of s09).dpAll x3⟩
        have hr' : r ∈ past1 := hr
        rw [hpast] at hr'
        split at hr'
        · rename_i h0
          rcases List.mem_append.mp (List.mem_of_mem_drop hr') with h | h
          · exact old h
          · have hm2 : r ∈ (C.rows.drop top).take n := by rw [h0, List.drop_zero]; exact h
            obtain ⟨m1, m2⟩ := ownR_mem (c := c) hm2
            exact ⟨hpin _ m1, hpin _ m2, inR r (List.mem_of_mem_take h)⟩
        · exact old hr'
      · obtain ⟨q, pv, x1, x2, x3⟩ := A.pb
        exact ⟨q, pv, x1, (Gr.of s09).sqT x2, (Gr.of s09).dp x3⟩
    refine ⟨s, _, S.rolled top n, top, F9, L, rfl, by show top ≤ S.high; omega, A', W11, fun C2 F10 H10 s10 A2 W12 => ?_⟩
    walk_at "r"
    exact kk C2 F10 H10 (s09.trans s10) A2 W12
theorem rolledDown_wf {S : Scr} (w : S.Wf) {top n : Nat} (ht : top ≤ S.bottom) (hn : n ≤ S.bottom + 1 - top) : (S.rolledDown top n).Wf := by
  have h1 := w.rl
  have h2 := w.bh
  refine ⟨w.w1, w.w2, w.h1, w.h2, w.m, ?_, fun p hp => ?_, w.pl, w.pw, w.row, w.column, w.tb, w.bh, w.rd⟩
  · show (S.rows.take top ++ List.replicate n (blankRow S.wide) ++ (S.rows.drop top).take (S.bottom + 1 - n - top) ++ S.rows.drop (S.bottom + 1)).length = S.high
    simp only [List.length_append, List.length_take, List.length_drop, List.length_replicate]
    omega
  · have hp' : p ∈ S.rows.take top ++ List.replicate n (blankRow S.wide) ++ (S.rows.drop top).take (S.bottom + 1 - n - top) ++ S.rows.drop (S.bottom + 1) := hp
    show p.cells.length = S.wide
    simp only [List.mem_append] at hp'
    rcases hp' with ((h | h) | h) | h
    · exact w.rw p (List.mem_of_mem_take h)
    · rw [List.eq_of_mem_replicate h]; exact List.length_replicate
    · exact w.rw p (List.mem_of_mem_drop (List.mem_of_mem_take h))
    · exact w.rw p (List.mem_of_mem_drop h)
theorem rd_Screen_roll_down (R : FScreen c) : RD N_Screen_roll_down (t_Screen_roll_down c) (sp_Screen_roll_down c) := by
  have cl := R.cl
  have n1 := R.n_bottom
  have n2 := R.n_rows
  have n5 := R.n_wide
  rintro vs H Q E ⟨s, C, S, top, many, F, L, rfl, ht, A, W, kk⟩
  have wf := A.wf
  have bh := wf.bh
  have hh := wf.h2
  have hlen := A.len
  unfold t_Screen_roll_down
  walk_at "r"
  have e : min ((many : Nat) : Int) ((S.bottom : Int) - top + 1) = ((min many (S.bottom + 1 - top) : Nat) : Int) := by omega
  rw [e]
  have ek : S.rollDown top many = (S.rolledDown top (min many (S.bottom + 1 - top))).cutOff top := rfl
  rw [ek] at kk
  have hn : min many (S.bottom + 1 - top) ≤ S.bottom + 1 - top := Nat.min_le_right _ _
  generalize min many (S.bottom + 1 - top) = n at kk hn
  walk_at "r"
  refine x_irng1' (by omega) (by omega) ?_
  rw [Int.toNat_natCast]
  refine x_fresh R ItOk.rng W rfl fsScreen_g1 wf.w2 (by omega) (by decide) rfl fun D fr F2 H2 s2 hfl hfr hD W2 => ?_
  walk_at "r"
  have hpr : F2 C.pr = some (.lst (rowRefs C.rows)) := s2 _ _ A.pr
  have e3 : ((S.bottom + OfNat.ofNat 1 : Nat) : Int) - ((n : Nat) : Int) = ((S.bottom + 1 - n : Nat) : Int) := by
    show ((S.bottom + 1 : Nat) : Int) - ((n : Nat) : Int) = _
    omega
  rw [e3]
  refine n_rowsMid W2 hpr fun a2 F4 H4 s4 h4 W4 => ?_
  walk_at "r"
  refine n_rowsTo W4 (s4 _ _ hpr) fun a1 F3 H3 s3 h3 W3 => ?_
  walk_at "r"
  refine n_rowsAdd W3 h3 (s3 _ _ (s4 _ _ hD)) (by simp only [List.length_append, List.length_take, List.length_drop]; omega) fun a3 F5 H5 s5 h5 W5 => ?_
  walk_at "r"
  refine n_rowsAdd W5 h5 (s5 _ _ (s3 _ _ h4)) (by simp only [List.length_append, List.length_take, List.length_drop]; omega) fun a4 F6 H6 s6 h6 W6 => ?_
  walk_at "r"
  have s26 : Same F2 F6 := ((s4.trans s3).trans s5).trans s6
  refine n_rowsFrom W6 (s26 _ _ hpr) fun a5 F7 H7 s7 h7 W7 => ?_
  refine n_rowsAdd W7 (s7 _ _ h6) h7 (by simp only [List.length_append, List.length_take, List.length_drop]; omega) fun a6 F8 H8 s8 h8 W8 => ?_
  walk_at "r"
  have s28 : Same F2 F8 := (s26.trans s7).trans s8
  refine x_put0 W8 cl n2 fsScreen_len fsScreen_p5 fun H9 W9 => ?_
  walk_at "r"
  have pm : List.Perm (fr ++ C.rows) ((C.rows.drop (S.bottom + 1 - n)).take n ++ (C.rows.take top ++ fr ++ (C.rows.drop top).take (S.bottom + 1 - n - top) ++ C.rows.drop (S.bottom + OfNat.ofNat 1))) := by
    have e1 : C.rows = C.rows.take top ++ ((C.rows.drop top).take (S.bottom + 1 - n - top) ++ ((C.rows.drop (S.bottom + 1 - n)).take n ++ C.rows.drop (S.bottom + OfNat.ofNat 1))) := by
      have a1 : C.rows.drop (S.bottom + OfNat.ofNat 1) = (C.rows.drop (S.bottom + 1 - n)).drop n := by
        rw [List.drop_drop]; congr 1; show S.bottom + 1 = S.bottom + 1 - n + n; omega
      have a2 : C.rows.drop (S.bottom + 1 - n) = (C.rows.drop top).drop (S.bottom + 1 - n - top) := by
        rw [List.drop_drop]; congr 1; omega
      rw [a1, List.take_append_drop, a2, List.take_append_drop, List.take_append_drop]
    generalize (C.rows.drop (S.bottom + 1 - n)).take n = lv at e1 ⊢
    generalize C.rows.take top = tk at e1 ⊢
    generalize (C.rows.drop top).take (S.bottom + 1 - n - top) = md at e1 ⊢
    generalize C.rows.drop (S.bottom + OfNat.ofNat 1) = tl at e1 ⊢
    rw [e1]
    haveI : DecidableEq RowC := fun _ _ => Classical.propDecidable _
    exact List.perm_iff_count.mpr fun a => by simp only [List.count_append]; omega
  have W10 : Hold F8 ((s, scrO c { C with pr := a6 } S) :: (C.r, rdO c C.rdx S.rd) :: (ownR c (C.rows.take top ++ fr ++ (C.rows.drop top).take (S.bottom + 1 - n - top) ++ C.rows.drop (S.bottom + OfNat.ofNat 1)) ++ L)) H9 := by
    have W10' : Hold F8 (ownR c ((C.rows.drop (S.bottom + 1 - n)).take n) ++ ((s, scrO c { C with pr := a6 } S) :: (C.r, rdO c C.rdx S.rd) :: (ownR c (C.rows.take top ++ fr ++ (C.rows.drop top).take (S.bottom + 1 - n - top) ++ C.rows.drop (S.bottom + OfNat.ofNat 1)) ++ L))) H9 := by
      refine W9.perm ?_
      have p1 := (ownR_perm (c := c) pm).append_right L
      rw [ownR_app, ownR_app, List.append_assoc, List.append_assoc] at p1
      exact ((p1.cons _).cons _).trans (List.perm_append_comm_assoc [_, _] (ownR c ((C.rows.drop (S.bottom + 1 - n)).take n)) _)
    exact W10'.sub (List.sublist_append_right _ _)
  have s08 : Same F F8 := s2.trans s28
  have A' : ScrAt c F8 { C with pr := a6, rows := C.rows.take top ++ fr ++ (C.rows.drop top).take (S.bottom + 1 - n - top) ++ C.rows.drop (S.bottom + OfNat.ofNat 1) } (S.rolledDown top n) := by
    have inR : ∀ r, r ∈ C.rows → cellsAt c F8 r := fun r hr => (Gr.of s08).dpAll (A.vals r hr)
    have A8 := A.gr (Gr.of s08)
    refine ⟨rolledDown_wf wf ht hn, ?_, A.past, fun r hr => ?_, h8, A8.pp, A8.pin, A8.pen, A8.pb⟩
    · show (C.rows.take top ++ fr ++ (C.rows.drop top).take (S.bottom + 1 - n - top) ++ C.rows.drop (S.bottom + 1)).map (·.row) = S.rows.take top ++ List.replicate n (blankRow S.wide) ++ (S.rows.drop top).take (S.bottom + 1 - n - top) ++ S.rows.drop (S.bottom + 1)
      have ef : fr.map (·.row) = List.replicate n (blankRow S.wide) := List.eq_replicate_iff.mpr ⟨by rw [List.length_map, hfl], fun p hp => by obtain ⟨r, hr, rfl⟩ := List.mem_map.mp hp; exact (hfr r hr).1⟩
      rw [List.map_append, List.map_append, List.map_append, ef, List.map_take, List.map_take, List.map_drop, List.map_drop, A.rows]
    · simp only [List.mem_append] at hr
      rcases hr with ((h | h) | h) | h
      · exact inR r (List.mem_of_mem_take h)
      · exact (Gr.of s28).dpAll (hfr r h).2
      · exact inR r (List.mem_of_mem_drop (List.mem_of_mem_take h))
      · exact inR r (List.mem_of_mem_drop h)
  refine ⟨s, _, S.rolledDown top n, top, F8, L, rfl, by show top ≤ S.high; omega, A', W10, fun C2 F10 H10 s10 A2 W12 => ?_⟩
  walk_at "r"
  exact kk C2 F10 H10 (s08.trans s10) A2 W12
theorem rd_Screen_down (R : FScreen c) : RD N_Screen_down (t_Screen_down c) (sp_Screen_down c) := by
  have cl := R.cl
  have n1 := R.n_bottom
  have n2 := R.n_row
  have n3 := R.n_top
  have n4 := R.n_high
  rintro vs H Q E ⟨s, C, S, F, L, rfl, A, W, kk⟩
  have wf := A.wf
  unfold t_Screen_down
  walk_at "r"
  refine wD (fun h => ?_) (fun h => ?_)
  · have e : S.down = S.roll S.top 1 := if_pos (by omega)
    rw [e] at kk
    walk_at "r"
    refine ⟨s, C, S, S.top, 1, F, L, rfl, wf.tb, A, W, fun C2 F2 H2 s2 A2 W2 => ?_⟩
    walk_at "r"
    exact kk C2 F2 H2 s2 A2 W2
  · have e : S.down = if S.row < S.high - 1 then { S with row := S.row + 1 } else S := if_neg (by omega)
    rw [e] at kk
    walk_at "r"
    refine wD (fun h2 => ?_) (fun h2 => ?_)
    · rw [if_pos (by have := wf.h1; omega)] at kk
      walk_at "r"
      refine x_put0 W cl n2 fsScreen_len fsScreen_p6 fun H1 W1 => ?_
      walk_at "r"
      refine kk C F H1 (Same.refl F) ⟨?_, A.rows, A.past, A.vals, A.pr, A.pp, A.pin, A.pen, A.pb⟩ W1
      exact ⟨wf.w1, wf.w2, wf.h1, wf.h2, wf.m, wf.rl, wf.rw, wf.pl, wf.pw, by show S.row + 1 < S.high; omega, wf.column, wf.tb, wf.bh, wf.rd⟩
    · rw [if_neg (by have := wf.h1; omega)] at kk
      walk_at "r"
      exact kk C F H (Same.refl F) A W
theorem rd_Screen_up (R : FScreen c) : RD N_Screen_up (t_Screen_up c) (sp_Screen_up c) := by
  have cl := R.cl
  have n2 := R.n_row
  have n3 := R.n_top
  rintro vs H Q E ⟨s, C, S, F, L, rfl, A, W, kk⟩
  have wf := A.wf
  unfold t_Screen_up
  walk_at "r"
  refine wD (fun h => ?_) (fun h => ?_)
  · have e : S.up = S.rollDown S.top 1 := if_pos (by omega)
    rw [e] at kk
    walk_at "r"
    refine ⟨s, C, S, S.top, 1, F, L, rfl, wf.tb, A, W, fun C2 F2 H2 s2 A2 W2 => ?_⟩
    walk_at "r"
    exact kk C2 F2 H2 s2 A2 W2
  · have e : S.up = if 0 < S.row then { S with row := S.row - 1 } else S := if_neg (by omega)
    rw [e] at kk
    walk_at "r"
    refine wD (fun h2 => ?_) (fun h2 => ?_)
    · rw [if_pos (by omega)] at kk
      walk_at "r"
      refine x_put0 W cl n2 fsScreen_len fsScreen_p6 fun H1 W1 => ?_
      walk_at "r"
      have e4 : ((S.row : Nat) : Int) - 1 = ((S.row - 1 : Nat) : Int) := by omega
      rw [e4] at W1
      refine kk C F H1 (Same.refl F) ⟨?_, A.rows, A.past, A.vals, A.pr, A.pp, A.pin, A.pen, A.pb⟩ W1
      exact ⟨wf.w1, wf.w2, wf.h1, wf.h2, wf.m, wf.rl, wf.rw, wf.pl, wf.pw, by show S.row - 1 < S.high; have := wf.row; omega, wf.column, wf.tb, wf.bh, wf.rd⟩
    · rw [if_neg (by omega)] at kk
      walk_at "r"
      exact kk C F H (Same.refl F) A W
end
end Ss
/-! ## Screens: put, erase, small, .. -/
namespace Ss
open PySem PySem.Spec PyProof.Rows L2
open Ss in
local macro_rules | `(tactic| walk_at "fg") => `(tactic| first | with_reducible exact fsScreen_g0 | with_reducible exact fsScreen_g1 | with_reducible exact fsScreen_g2 | with_reducible exact fsScreen_g3 | with_reducible exact fsScreen_g4 | with_reducible exact fsScreen_g5 | with_reducible exact fsScreen_g6 | with_reducible exact fsScreen_g7 | with_reducible exact fsScreen_g8 | with_reducible exact fsScreen_g9 | with_reducible exact fsScreen_g10 | with_reducible exact fsScreen_g11 | with_reducible exact fsScreen_g12 | with_reducible exact fsScreen_g13 | with_reducible exact fsRow_g0 | with_reducible exact fsRow_g1 | with_reducible exact fsReader_g0 | with_reducible exact fsReader_g1)
open Ss in
local macro_rules | `(tactic| walk_at "r") => `(tactic| repeat (first
  | with_reducible refine x_seq ?_ | with_reducible refine x_asg ?_ | with_reducible refine x_var rfl ?_ | with_reducible refine x_c ?_ | with_reducible refine x_op ?_ | with_reducible refine x_name ?_ | with_reducible refine x_gcons ?_ | with_reducible refine x_gnil ?_
  | with_reducible refine x_cons ?_ | with_reducible refine x_nil ?_ | with_reducible refine x_cb ?_ | with_reducible refine x_ifs ?_ | with_reducible refine x_test ?_ | with_reducible refine x_bl ?_
  | with_reducible refine g_addNN ?_ | with_reducible refine g_addNL ?_ | with_reducible refine g_addLN ?_ | with_reducible refine l_addI ?_ | with_reducible refine l_subI ?_ | with_reducible refine g_ltNL ?_ | with_reducible refine l_ltI ?_ | with_reducible refine l_leI ?_ | with_reducible refine l_gtI ?_ | with_reducible refine l_geI ?_ | with_reducible refine l_eqX ?_ | with_reducible refine l_neX ?_ | with_reducible refine g_eqNL ?_ | with_reducible refine l_eqII ?_ | with_reducible refine l_neII ?_ | with_reducible refine l_eq rfl ?_ | with_reducible refine l_ne rfl ?_
  | with_reducible refine x_fld ?_ | with_reducible refine x_ret ?_ | with_reducible refine x_drop ?_ | with_reducible refine x_next ?_ | with_reducible refine x_tup ?_ | with_reducible refine x_lst ?_ | with_reducible refine x_f ?_ | with_reducible refine x_o ?_ | with_reducible refine x_n ?_
  | with_reducible refine x_bm ?_ | with_reducible refine x_bm0 ?_ | with_reducible refine x_m1 ?_ | with_reducible refine x_m0 ?_ | with_reducible refine x_isstr ?_ | with_reducible refine x_tystr ?_ | with_reducible refine x_sl ?_ | with_reducible refine x_part ?_ | with_reducible refine x_part' ?_ | with_reducible refine x_nopart ?_
  | with_reducible refine x_sfld ?_ | with_reducible refine x_if ?_ | with_reducible refine x_isty ?_ | with_reducible refine x_chain ?_ | with_reducible refine x_andV ?_ | with_reducible refine x_orV ?_ | with_reducible refine x_notV ?_ | with_reducible refine x_B ?_ | with_reducible refine x_and ?_ | with_reducible refine x_or ?_ | with_reducible refine x_not ?_ | with_reducible refine x_tru ?_ | with_reducible refine x_yes ?_
  | with_reducible refine x_un ?_ | with_reducible refine x_neg ?_ | with_reducible refine x_par ?_ | with_reducible refine x_par' ?_ | with_reducible refine x_retN ?_ | with_reducible refine x_brk ?_ | with_reducible refine x_cont ?_ | with_reducible refine x_rz ?_
  | with_reducible refine l_leS ?_ | with_reducible refine l_ltS ?_ | with_reducible refine l_inX ?_ | with_reducible refine l_niX ?_ | with_reducible refine l_inS ?_ | with_reducible refine l_niS ?_ | with_reducible refine l_count ?_ | with_reducible refine l_ord ?_ | with_reducible refine l_max ?_ | with_reducible refine l_min ?_ | with_reducible refine l_intI ?_ | with_reducible refine l_intB ?_ | with_reducible refine l_is ?_ | with_reducible refine l_isn ?_
  | with_reducible refine g_modNL (by decide) ?_ | with_reducible refine g_divNL (by decide) (by decide) ?_ | with_reducible refine l_modI (by decide) ?_ | with_reducible refine x_for ?_ | with_reducible refine x_lc ?_ | with_reducible refine x_ilist ?_ | with_reducible refine x_itup ?_ | with_reducible refine x_istr ?_ | with_reducible refine x_istr' ?_ | with_reducible refine x_irng1 ?_ | with_reducible refine x_irng2 ?_
  | (with_reducible refine x_get (by first | assumption | exact Hold.get0 (by assumption) | exact Hold.get1 (by assumption)) (by assumption) (by assumption) (by walk_at "fg") ?_)
  | (with_reducible refine x_ao (by first | assumption | exact Hold.get0 (by assumption) | exact Hold.get1 (by assumption)) (by kernel_rfl) ?_)
  | with_reducible refine x_ienum ?_ | with_reducible refine x_izip ?_ | with_reducible refine x_chain3 ?_
  | (with_reducible refine x_par2 ?_)
  | (with_reducible refine x_par3 ?_) | (with_reducible refine x_par3' ?_)))
def t_Screen_put (c : Ctx) (E : XK) : TS :=
  (C8.tCut (tIfS (tB (tFld c.K (tVar 0) "is_full")) (tSeq (sFld c.K (tOp (uIx c.K) (tFld c.K (tVar 0) "rows") (tFld c.K (tVar 0) "row")) (tOrV (tOp (uEq c.K) (tFld c.K (tVar 0) "row") (tFld c.K (tVar 0) "bottom")) (tOp uLt (tFld c.K (tVar 0) "row") (tOp uSub (tFld c.K (tVar 0) "high") (tC (.int 1))))) "goes_on")
  (tSeq (tDrop (tO c.cScreen "down" (sp_Screen_down c) E0 (tVar 0) tNil))
  (tDrop (tO c.cScreen "stand" (sp_Screen_stand c) E0 (tVar 0) (tCons (tFld c.K (tVar 0) "row") (tCons (tC (.int 0)) tNil)))))) tNext) (tSeq (tAsg (tTup (tCons (tVar 1) (tCons (tFld c.K (tVar 0) "pen") tNil))) (gSub (tFld c.K (tOp (uIx c.K) (tFld c.K (tVar 0) "rows") (tFld c.K (tVar 0) "row")) "cells") (tFld c.K (tVar 0) "column") rSetL))
  (tSeq (sFld c.K (tVar 0) (tVar 1) "last")
  (tIfS (tTest (tOp (uEq c.K) (tFld c.K (tVar 0) "column") (tOp uSub (tFld c.K (tVar 0) "wide") (tC (.int 1))))) (sFld c.K (tVar 0) (tC (.bl true)) "is_full") (sFld c.K (tVar 0) (tOp (uAdd c.K) (tFld c.K (tVar 0) "column") (tC (.int 1))) "column")))))
abbrev N_Screen_put : List Str := ["self", "sign"]

def t_Screen_begin (c : Ctx) (E : XK) : TS :=
  (tSeq (sFld c.K (tVar 0) (tLc (iRng1 (tCons (tFld c.K (tVar 0) "high") tNil)) (gName 1) tYes (tF (sp_blank_row c) E0 (tCons (tFld c.K (tVar 0) "wide") tNil)) [1]) "rows")
  (tSeq (sFld c.K (tVar 0) (tC (.int 0)) "row")
  (tSeq (sFld c.K (tVar 0) (tC (.int 0)) "column")
  (tSeq (sFld c.K (tVar 0) (tC (.bl false)) "is_full")
  (tSeq (sFld c.K (tVar 0) (tC (v_PLAIN c)) "pen")
  (tSeq (sFld c.K (tVar 0) (tC (.int 0)) "top")
  (tSeq (sFld c.K (tVar 0) (tOp uSub (tFld c.K (tVar 0) "high") (tC (.int 1))) "bottom")
  (tSeq (sFld c.K (tVar 0) (tTup (tCons (tC (.int 0)) (tCons (tC (.int 0)) (tCons (tC (v_PLAIN c)) tNil)))) "put_by")
  (sFld c.K (tVar 0) (tC .non) "last")))))))))
abbrev N_Screen_begin : List Str := ["self", "at"]

section
variable {c : Ctx}
theorem dpAll_set {K : PySem.W.Frag} {F : Hp} {v : V} {d : PyData} (h : Dp K F v d) : ∀ {ys : List V} {ds : List PyData} (i : Nat), DpAll K F ys ds → DpAll K F (ys.set i v) (ds.set i d)
  | _, _, _, .nil => .nil
  | _, _, 0, .cons _ t => .cons h t
  | _, _, i + 1, .cons a t => .cons a (dpAll_set h i t)
theorem orV_of {σ : L2.St} {H H1 : Hp} {Q : VK} {ta tb : TE} {a b : Bool} (ha : ∀ R : VK, R (.bl a) H1 → ta σ H R) (hb : ∀ R : VK, R (.bl b) H1 → tb σ H1 R) (q : Q (.bl (a || b)) H1) : tOrV ta tb σ H Q := by
  refine x_orV (ha _ ⟨a, rfl, ?_⟩)
  cases a with
  | true => exact wT rfl q
  | false => exact wF rfl (hb _ q)
/-- a row's cells are read -/
theorem x_cells {C : ScrC} {S : Scr} {F H : Hp} {L : List (Addr × HO)} {Q : VK} {i : Nat} {r : RowC} {s : Addr} (R : FRow c) (W : Hold F (scrL c s C S L) H) (h : C.rows[i]? = some r) (q : Q (.ref r.cl) H) : aFld c.K (.ref r.a) "cells" H Q :=
  x_get ((W.row2 h).get 0 rfl) R.cl R.n_cells fsRow_g0 q
theorem cl_at {C : ScrC} {S : Scr} {F H : Hp} {L : List (Addr × HO)} {i : Nat} {r : RowC} {s : Addr} (W : Hold F (scrL c s C S L) H) (h : C.rows[i]? = some r) : H r.cl = some (.lst r.vals) := (W.row2 h).get 1 rfl
theorem setCells_eq {C : ScrC} {S : Scr} {F : Hp} {r : RowC} (A : ScrAt c F C S) (h : C.rows[S.row]? = some r) (cells : List Cell) : S.setCells cells = S.setRow S.row { r.row with cells := cells } := by
  unfold Scr.setCells; rw [A.rowAt h]
/-- rows[row].cells[k] = cell -/
theorem x_cellSet {C : ScrC} {S : Scr} {F H : Hp} {L : List (Addr × HO)} {QH : Hp → Prop} {k : Nat} {r : RowC} {s : Addr} {v : V} {x : Cell} (A : ScrAt c F C S) (W : Hold F (scrL c s C S L) H) (h : C.rows[S.row]? = some r) (hk : k < S.wide) (hv : Dp c.K F v x.data)
    (q : ∀ C' H', ScrAt c F C' (S.setCells (r.row.cells.set k x)) → Hold F (scrL c s C' (S.setCells (r.row.cells.set k x)) L) H' → QH H') : rSetL (.ref r.cl) (.int (k : Nat)) v H QH := by
  have hm := List.mem_of_getElem? h
  have hw : r.row.cells.length = S.wide := A.wf.rw r.row (by rw [← A.rows]; exact List.mem_map_of_mem hm)
  have hvl := dpAll_len (A.vals r hm)
  rw [List.length_map] at hvl
  refine x_setL (cl_at W h) (by omega) ?_
  have W1 := (W.row2 h).put1 (o' := .lst (r.vals.set k v))
  rw [setCells_eq A h] at q
  refine q { C with rows := C.rows.set S.row { r with vals := r.vals.set k v, row := { r.row with cells := r.row.cells.set k x } } } _ (A.setRow (r' := { r with vals := r.vals.set k v, row := { r.row with cells := r.row.cells.set k x } }) h rfl ?_ ?_) ?_
  · show DpAll c.K F (r.vals.set k v) ((r.row.cells.set k x).map Cell.data)
    rw [List.map_set]
    exact dpAll_set hv k (A.vals r hm)
  · show (r.row.cells.set k x).length = S.wide
    rw [List.length_set]; exact hw
  · exact Hold.row2Back (C := C) (r' := { r with vals := r.vals.set k v, row := { r.row with cells := r.row.cells.set k x } }) W1 (List.getElem?_eq_some_iff.mp h).1
/-- rows[row].cells = a new list -/
theorem x_cellsPut {C : ScrC} {S : Scr} {F H : Hp} {L : List (Addr × HO)} {QH : Hp → Prop} {r : RowC} {s q : Addr} {vals : List V} {cells : List Cell} (R : FRow c) (A : ScrAt c F C S) (W : Hold F ((q, .lst vals) :: scrL c s C S L) H) (h : C.rows[S.row]? = some r)
    (hv : DpAll c.K F vals (cells.map Cell.data)) (hl : cells.length = S.wide)
    (k : ∀ C' H', ScrAt c F C' (S.setCells cells) → C'.rows[S.row]? = some { r with cl := q, vals := vals, row := { r.row with cells := cells } } → Hold F (scrL c s C' (S.setCells cells) L) H' → QH H') : aPut c.K (.ref r.a) (.ref q) "cells" H QH := by
  have hlt := (List.getElem?_eq_some_iff.mp h).1
  have W1 : Hold F ((r.a, rowO c r.dx r.cl r.row.goes) :: (r.cl, .lst r.vals) :: (q, .lst vals) :: (s, scrO c C S) :: (C.r, rdO c C.rdx S.rd) :: (ownR c (C.rows.eraseIdx S.row) ++ L)) H := by
    refine W.perm ((List.Perm.cons (q, HO.lst vals) (((((ownR_out h).append_right L).cons (C.r, rdO c C.rdx S.rd)).cons (s, scrO c C S)))).trans ?_)
    exact List.perm_append_comm_assoc [(q, HO.lst vals), (s, scrO c C S), (C.r, rdO c C.rdx S.rd)] [(r.a, rowO c r.dx r.cl r.row.goes), (r.cl, HO.lst r.vals)] _
  refine x_put0 W1 R.cl R.n_cells fsRow_len fsRow_p0 fun H' W' => ?_
  rw [setCells_eq A h] at k
  refine k { C with rows := C.rows.set S.row { r with cl := q, vals := vals, row := { r.row with cells := cells } } } H' (A.setRow (r' := { r with cl := q, vals := vals, row := { r.row with cells := cells } }) h rfl hv hl) (by show (C.rows.set S.row _)[S.row]? = _; rw [List.getElem?_set_self hlt]) ?_
  refine Hold.row2Back (C := C) (r' := { r with cl := q, vals := vals, row := { r.row with cells := cells } }) ?_ hlt
  exact W'.sub (List.Sublist.cons₂ _ (List.sublist_cons_self _ _))
theorem type1_wf {S : Scr} (w : S.Wf) (n : Nat) : (S.type1 n).Wf := by
  have hw : ∀ p ∈ (S.setCells ((S.rowAt S.row).cells.set S.column ⟨n, S.pen⟩)).rows, p.cells.length = S.wide := by
    intro p hp
    have hp' : p ∈ S.rows.set S.row { S.rowAt S.row with cells := (S.rowAt S.row).cells.set S.column ⟨n, S.pen⟩ } := hp
    rcases List.mem_or_eq_of_mem_set hp' with h | h
    · exact w.rw p h
    · rw [h]
      show ((S.rowAt S.row).cells.set S.column _).length = S.wide
      rw [List.length_set]
      refine w.rw _ ?_
      unfold Scr.rowAt
      have hlt : S.row < S.rows.length := by rw [w.rl]; exact w.row
      rw [List.getD_eq_getElem?_getD, List.getElem?_eq_getElem hlt]
      exact List.getElem_mem hlt
  have hl : (S.setCells ((S.rowAt S.row).cells.set S.column ⟨n, S.pen⟩)).rows.length = S.high := by
    show (S.rows.set _ _).length = _
    rw [List.length_set, w.rl]
  unfold Scr.type1 Scr.next
  split
  · exact ⟨w.w1, w.w2, w.h1, w.h2, w.m, hl, hw, w.pl, w.pw, w.row, w.column, w.tb, w.bh, w.rd⟩
  · rename_i hc
    have hc' : ¬ S.column = S.wide - 1 := hc
    exact ⟨w.w1, w.w2, w.h1, w.h2, w.m, hl, hw, w.pl, w.pw, w.row, by show S.column + 1 < S.wide; have := w.column; omega, w.tb, w.bh, w.rd⟩
theorem rd_Screen_put (R : FScreen c) (RR : FRow c) : RD N_Screen_put (t_Screen_put c) (sp_Screen_put c) := by
  have cl := R.cl
  have n1 := R.n_bottom
  have n2 := R.n_row
  have n3 := R.n_rows
  have n4 := R.n_high
  have n5 := R.n_is_full
  have n6 := R.n_pen
  have n7 := R.n_column
  have n8 := R.n_wide
  rintro vs H Q E ⟨s, C, S, n, F, L, rfl, A, W, kk⟩
  unfold t_Screen_put
  refine x_cut (fun σ' H' => ∃ C1 F1, σ' = [some (.ref s), some (.str (T [n]))] ∧ Same F F1 ∧ ScrAt c F1 C1 S.wrap ∧ Hold F1 (scrL c s C1 S.wrap L) H') ?_ ?_
  · walk_at "r"
    refine w2 (fun h => ?_) (fun h => ?_)
    · refine x_seq (x_sfld (orV_of (a := decide (S.row = S.bottom)) (b := decide (S.row < S.high - 1)) (H1 := H) (fun Rr hR => ?_) (fun Rr hR => ?_) ?_))
      · walk_at "r"
        have e : decide ((S.row : Int) = (S.bottom : Int)) = decide (S.row = S.bottom) := by rw [Bool.eq_iff_iff, decide_eq_true_eq, decide_eq_true_eq]; omega
        rw [e]; exact hR
      · walk_at "r"
        have e : decide ((S.row : Int) < (S.high : Int) - 1) = decide (S.row < S.high - 1) := by have := A.wf.h1; rw [Bool.eq_iff_iff, decide_eq_true_eq, decide_eq_true_eq]; omega
        rw [e]; exact hR
      obtain ⟨r, hr, _⟩ := row_of A A.wf.row
      walk_at "r"
      refine x_rowIx A W hr ?_
      refine x_goes RR A W hr fun C1 H1 A1 W1 => ?_
      walk_at "r"
      refine ⟨s, C1, _, F, L, rfl, A1, W1, fun C2 F2 H2 s2 A2 W2 => ?_⟩
      walk_at "r"
      refine ⟨s, C2, _, _, 0, F2, L, rfl, A2, W2.st, fun C3 F3 H3 s3 A3 W3 => ?_⟩
      walk_at "r"
      have e : S.wrap = (let S1 := (S.setGoes S.row (decide (S.row = S.bottom) || decide (S.row < S.high - 1))).down; S1.stand S1.row 0) := if_pos h
      rw [e]
      exact ⟨C3, F3, rfl, s2.trans s3, A3, W3⟩
    · walk_at "r"
      have e : S.wrap = S := if_neg (by rw [h]; decide)
      rw [e]
      exact ⟨C, F, rfl, Same.refl F, A, W⟩
  · rintro σ' H1 ⟨C1, F1, rfl, s1, A1, W1⟩
    have ep : S.put n = S.wrap.type1 n := rfl
    rw [ep] at kk
    generalize S.wrap = S1 at A1 W1 kk
    walk_at "r"
    refine n_tupF W1 (sz rfl) fun p F2 H2 s2 h2 W2 => ?_
    have A2 := A1.gr (Gr.of s2)
    obtain ⟨r, hr, _, _, hrow, _⟩ := row_of A2 A2.wf.row
    refine x_gsub ?_
    walk_at "r"
    refine x_rowIx A2 W2 hr (x_cells RR W2 hr ?_)
    walk_at "r"
    have hv : Dp c.K F2 (.ref p) (Cell.mk n S1.pen).data := .tup (st_of h2) (.cons (.str _) (.cons A2.pen .nil))
    refine x_cellSet (x := ⟨n, S1.pen⟩) A2 W2 hr A2.wf.column hv fun C3 H3 A3 W3 => ?_
    walk_at "r"
    refine x_put0 W3 cl R.n_last fsScreen_len fsScreen_p13 fun H4 W4 => ?_
    walk_at "r"
    have wf1 := type1_wf A2.wf n
    have et : S1.type1 n = Scr.next { S1.setCells (r.row.cells.set S1.column ⟨n, S1.pen⟩) with last := some n } := by unfold Scr.type1; rw [hrow]
    rw [et] at kk wf1
    unfold Scr.next at kk wf1
    refine wD (fun h => ?_) (fun h => ?_)
    · have h' : S1.column = S1.wide - 1 := by
        have : (S1.column : Int) = (S1.wide : Int) - 1 := h
        have := A2.wf.w1
        omega
      rw [if_pos (show (S1.setCells (r.row.cells.set S1.column ⟨n, S1.pen⟩)).column = (S1.setCells (r.row.cells.set S1.column ⟨n, S1.pen⟩)).wide - 1 from h')] at kk wf1
      walk_at "r"
      refine x_put0 W4 cl n5 fsScreen_len fsScreen_p8 fun H5 W5 => ?_
      walk_at "r"
      exact kk C3 F2 H5 (s1.trans s2) ⟨wf1, A3.rows, A3.past, A3.vals, A3.pr, A3.pp, A3.pin, A3.pen, A3.pb⟩ W5
    · have h' : ¬ S1.column = S1.wide - 1 := fun z => h (by
        show (S1.column : Int) = (S1.wide : Int) - 1
        have := A2.wf.w1
        omega)
      rw [if_neg (show ¬ (S1.setCells (r.row.cells.set S1.column ⟨n, S1.pen⟩)).column = (S1.setCells (r.row.cells.set S1.column ⟨n, S1.pen⟩)).wide - 1 from h')] at kk wf1
      walk_at "r"
      refine x_put0 W4 cl n7 fsScreen_len fsScreen_p7 fun H5 W5 => ?_
      walk_at "r"
      exact kk C3 F2 H5 (s1.trans s2) ⟨wf1, A3.rows, A3.past, A3.vals, A3.pr, A3.pp, A3.pin, A3.pen, A3.pb⟩ W5
theorem fsPart_g1 {r w h m p : V} : (fsPart r w h m p).lookup ("wide" : Str) = some w := by kernel_rfl
theorem fsPart_g2 {r w h m p : V} : (fsPart r w h m p).lookup ("high" : Str) = some h := by kernel_rfl
theorem rd_Screen_begin (U : Tups c) (R : FScreen c) : RD N_Screen_begin (t_Screen_begin c) (sp_Screen_begin c) := by
  have cl := R.cl
  have n4 := R.n_high
  rintro vs H Q E ⟨s, C, S, fs, F, L, rfl, hfs, P, W, kk⟩
  have h2 := P.h2
  have fin : ∀ (D : Addr) (fr : List RowC) (F1 : Hp) (p : Addr) (F2 H2 : Hp), Same F F1 → fr.length = S.high → (∀ r ∈ fr, r.row = blankRow S.wide ∧ cellsAt c F1 r) → F1 D = some (.lst (rowRefs fr)) → Same F1 F2 → F2 p = some (.tup [.int 0, .int 0, .ref c.aPLAIN]) →
      Hold F2 ((s, .ins c.cScreen C.dx (fsScreen (.ref C.r) (.int (S.wide : Nat)) (.int (S.high : Nat)) (.int (S.most : Nat)) (.ref C.pp) (.ref D) (.int 0) (.int 0) (.bl false) (.ref c.aPLAIN) (.int 0) (.int ((S.high : Int) - 1)) (.ref p) .non)) :: (C.r, rdO c C.rdx S.rd) :: (ownR c fr ++ L)) H2 → Q .non H2 := by
    intro D fr F1 p F2 H2 s1 hfl hfr hD s2 h2 W2
    have e : (S.high : Int) - 1 = ((S.high - 1 : Nat) : Int) := by have := P.h1; omega
    rw [e] at W2
    have g : Gr F F2 := (Gr.of s1).trans (Gr.of s2)
    have ef : fr.map (·.row) = List.replicate S.high (blankRow S.wide) := List.eq_replicate_iff.mpr ⟨by rw [List.length_map, hfl], fun p hp => by obtain ⟨r, hr, rfl⟩ := List.mem_map.mp hp; exact (hfr r hr).1⟩
    refine kk { C with pr := D, penv := .ref c.aPLAIN, pbv := .ref p, rows := fr } F2 H2 (s1.trans s2) ⟨⟨P.w1, P.w2, P.h1, P.h2, P.m, ?_, fun q hq => ?_, P.pl, P.pw, ?_, ?_, Nat.zero_le _, ?_, P.rd⟩, ef, P.past, fun r hr => (Gr.of s2).dpAll (hfr r hr).2, s2 _ _ hD, g.lst P.pp, fun r hr => ?_, U.plain F2, ⟨p, .ref c.aPLAIN, rfl, st_of h2, U.plain F2⟩⟩ W2
    · exact List.length_replicate
    · rw [List.eq_of_mem_replicate (show q ∈ List.replicate S.high (blankRow S.wide) from hq)]; exact List.length_replicate
    · show 0 < S.high; have := P.h1; omega
    · show 0 < S.wide; have := P.w1; omega
    · show S.high - 1 < S.high; have := P.h1; omega
    · obtain ⟨x1, x2, x3⟩ := P.pin r hr
      exact ⟨g.ins x1, g.lst x2, g.dpAll x3⟩
  unfold t_Screen_begin
  rcases hfs with hfs | hfs
  · have hfs' := (HO.ins.inj hfs).2.2
    subst hfs'
    refine x_seq (x_sfld (x_lc (x_irng1 (x_cons (x_fld (x_var rfl (x_get W.get0 cl n4 fsScreen_g2 ?_)))))))
    refine x_nil ?_
    refine x_irng1' (by omega) (by omega) ?_
    rw [Int.toNat_natCast]
    refine x_fresh R ItOk.rng W rfl fsScreen_g1 P.w2 (by omega) (by decide) rfl fun D fr F1 H1 s1 hfl hfr hD W1 => ?_
    refine x_var rfl ?_
    refine x_put0 W1 cl R.n_rows fsScreen_len fsScreen_p5 fun H2 W2 => ?_
    refine x_seq (x_sfld (x_c (x_var rfl ?_)))
    refine x_put0 W2 cl R.n_row fsScreen_len fsScreen_p6 fun H3 W3 => ?_
    refine x_seq (x_sfld (x_c (x_var rfl ?_)))
    refine x_put0 W3 cl R.n_column fsScreen_len fsScreen_p7 fun H4 W4 => ?_
    refine x_seq (x_sfld (x_c (x_var rfl ?_)))
    refine x_put0 W4 cl R.n_is_full fsScreen_len fsScreen_p8 fun H5 W5 => ?_
    refine x_seq (x_sfld (x_c (x_var rfl ?_)))
    refine x_put0 W5 cl R.n_pen fsScreen_len fsScreen_p9 fun H6 W6 => ?_
    refine x_seq (x_sfld (x_c (x_var rfl ?_)))
    refine x_put0 W6 cl R.n_top fsScreen_len fsScreen_p10 fun H7 W7 => ?_
    refine x_seq (x_sfld (x_op (x_fld (x_var rfl (x_get W7.get0 cl n4 fsScreen_g2 (x_c (l_subI (x_var rfl ?_))))))))
    refine x_put0 W7 cl R.n_bottom fsScreen_len fsScreen_p11 fun H8 W8 => ?_
    refine x_seq (x_sfld (x_tup (x_cons (x_c (x_cons (x_c (x_cons (x_c (x_nil ?_)))))))))
    refine n_tupF W8 (sz rfl) fun p F2 H9 s2 h2 W9 => ?_
    refine x_var rfl ?_
    refine x_put0 W9 cl R.n_put_by fsScreen_len fsScreen_p12 fun H10 W10 => ?_
    refine x_sfld (x_c (x_var rfl ?_))
    refine x_put0 W10 cl R.n_last fsScreen_len fsScreen_p13 fun H11 W11 => ?_
    exact fin D fr F1 p F2 H11 s1 hfl hfr hD s2 h2 W11
  · subst hfs
    refine x_seq (x_sfld (x_lc (x_irng1 (x_cons (x_fld (x_var rfl (x_get W.get0 cl n4 fsPart_g2 ?_)))))))
    refine x_nil ?_
    refine x_irng1' (by omega) (by omega) ?_
    rw [Int.toNat_natCast]
    refine x_fresh R ItOk.rng W rfl fsPart_g1 P.w2 (by omega) (by decide) rfl fun D fr F1 H1 s1 hfl hfr hD W1 => ?_
    refine x_var rfl ?_
    refine x_put0 (fs' := [("reader", .ref C.r), ("wide", .int (S.wide : Nat)), ("high", .int (S.high : Nat)), ("most", .int (S.most : Nat)), ("past", .ref C.pp), ("rows", .ref D)]) W1 cl R.n_rows (by show 5 < 1000; decide) (by kernel_rfl) fun H2 W2 => ?_
    refine x_seq (x_sfld (x_c (x_var rfl ?_)))
    refine x_put0 (fs' := [("reader", .ref C.r), ("wide", .int (S.wide : Nat)), ("high", .int (S.high : Nat)), ("most", .int (S.most : Nat)), ("past", .ref C.pp), ("rows", .ref D), ("row", .int 0)]) W2 cl R.n_row (by show 6 < 1000; decide) (by kernel_rfl) fun H3 W3 => ?_
    refine x_seq (x_sfld (x_c (x_var rfl ?_)))
    refine x_put0 (fs' := [("reader", .ref C.r), ("wide", .int (S.wide : Nat)), ("high", .int (S.high : Nat)), ("most", .int (S.most : Nat)), ("past", .ref C.pp), ("rows", .ref D), ("row", .int 0), ("column", .int 0)]) W3 cl R.n_column (by show 7 < 1000; decide) (by kernel_rfl) fun H4 W4 => ?_
    refine x_seq (x_sfld (x_c (x_var rfl ?_)))
    refine x_put0 (fs' := [("reader", .ref C.r), ("wide", .int (S.wide : Nat)), ("high", .int (S.high : Nat)), ("most", .int (S.most : Nat)), ("past", .ref C.pp), ("rows", .ref D), ("row", .int 0), ("column", .int 0), ("is_full", .bl false)]) W4 cl R.n_is_full (by show 8 < 1000; decide) (by kernel_rfl) fun H5 W5 => ?_
    refine x_seq (x_sfld (x_c (x_var rfl ?_)))
    refine x_put0 (fs' := [("reader", .ref C.r), ("wide", .int (S.wide : Nat)), ("high", .int (S.high : Nat)), ("most", .int (S.most : Nat)), ("past", .ref C.pp), ("rows", .ref D), ("row", .int 0), ("column", .int 0), ("is_full", .bl false), ("pen", .ref c.aPLAIN)]) W5 cl R.n_pen (by show 9 < 1000; decide) (by kernel_rfl) fun H6 W6 => ?_
    refine x_seq (x_sfld (x_c (x_var rfl ?_)))
    refine x_put0 (fs' := [("reader", .ref C.r), ("wide", .int (S.wide : Nat)), ("high", .int (S.high : Nat)), ("most", .int (S.most : Nat)), ("past", .ref C.pp), ("rows", .ref D), ("row", .int 0), ("column", .int 0), ("is_full", .bl false), ("pen", .ref c.aPLAIN), ("top", .int 0)]) W6 cl R.n_top (by show 10 < 1000; decide) (by kernel_rfl) fun H7 W7 => ?_
    refine x_seq (x_sfld (x_op (x_fld (x_var rfl (x_get (v := .int (S.high : Nat)) W7.get0 cl n4 (by kernel_rfl) (x_c (l_subI (x_var rfl ?_))))))))
    refine x_put0 (fs' := [("reader", .ref C.r), ("wide", .int (S.wide : Nat)), ("high", .int (S.high : Nat)), ("most", .int (S.most : Nat)), ("past", .ref C.pp), ("rows", .ref D), ("row", .int 0), ("column", .int 0), ("is_full", .bl false), ("pen", .ref c.aPLAIN), ("top", .int 0), ("bottom", .int ((S.high : Int) - 1))]) W7 cl R.n_bottom (by show 11 < 1000; decide) (by kernel_rfl) fun H8 W8 => ?_
    refine x_seq (x_sfld (x_tup (x_cons (x_c (x_cons (x_c (x_cons (x_c (x_nil ?_)))))))))
    refine n_tupF W8 (sz rfl) fun p F2 H9 s2 h2 W9 => ?_
    refine x_var rfl ?_
    refine x_put0 (fs' := [("reader", .ref C.r), ("wide", .int (S.wide : Nat)), ("high", .int (S.high : Nat)), ("most", .int (S.most : Nat)), ("past", .ref C.pp), ("rows", .ref D), ("row", .int 0), ("column", .int 0), ("is_full", .bl false), ("pen", .ref c.aPLAIN), ("top", .int 0), ("bottom", .int ((S.high : Int) - 1)), ("put_by", .ref p)]) W9 cl R.n_put_by (by show 12 < 1000; decide) (by kernel_rfl) fun H10 W10 => ?_
    refine x_sfld (x_c (x_var rfl ?_))
    refine x_put0 (fs' := [("reader", .ref C.r), ("wide", .int (S.wide : Nat)), ("high", .int (S.high : Nat)), ("most", .int (S.most : Nat)), ("past", .ref C.pp), ("rows", .ref D), ("row", .int 0), ("column", .int 0), ("is_full", .bl false), ("pen", .ref c.aPLAIN), ("top", .int 0), ("bottom", .int ((S.high : Int) - 1)), ("put_by", .ref p), ("last", .non)]) W10 cl R.n_last (by show 13 < 1000; decide) (by kernel_rfl) fun H11 W11 => ?_
    exact fin D fr F1 p F2 H11 s1 hfl hfr hD s2 h2 W11
end
end Ss
/-! ## Screens: erase, small -/
namespace Ss
open PySem PySem.Spec PyProof.Rows L2
open Ss in
local macro_rules | `(tactic| walk_at "fg") => `(tactic| first | with_reducible exact fsScreen_g0 | with_reducible exact fsScreen_g1 | with_reducible exact fsScreen_g2 | with_reducible exact fsScreen_g3 | with_reducible exact fsScreen_g4 | with_reducible exact fsScreen_g5 | with_reducible exact fsScreen_g6 | with_reducible exact fsScreen_g7 | with_reducible exact fsScreen_g8 | with_reducible exact fsScreen_g9 | with_reducible exact fsScreen_g10 | with_reducible exact fsScreen_g11 | with_reducible exact fsScreen_g12 | with_reducible exact fsScreen_g13 | with_reducible exact fsRow_g0 | with_reducible exact fsRow_g1 | with_reducible exact fsReader_g0 | with_reducible exact fsReader_g1)
open Ss in
local macro_rules | `(tactic| walk_at "r") => `(tactic| repeat (first
  | with_reducible refine x_seq ?_ | with_reducible refine x_asg ?_ | with_reducible refine x_var rfl ?_ | with_reducible refine x_c ?_ | with_reducible refine x_op ?_ | with_reducible refine x_name ?_ | with_reducible refine x_gcons ?_ | with_reducible refine x_gnil ?_
  | with_reducible refine x_cons ?_ | with_reducible refine x_nil ?_ | with_reducible refine x_cb ?_ | with_reducible refine x_ifs ?_ | with_reducible refine x_test ?_ | with_reducible refine x_bl ?_
  | with_reducible refine g_addNN ?_ | with_reducible refine g_addNL ?_ | with_reducible refine g_addLN ?_ | with_reducible refine l_addI ?_ | with_reducible refine l_subI ?_ | with_reducible refine g_ltNL ?_ | with_reducible refine l_ltI ?_ | with_reducible refine l_leI ?_ | with_reducible refine l_gtI ?_ | with_reducible refine l_geI ?_ | with_reducible refine l_eqX ?_ | with_reducible refine l_neX ?_ | with_reducible refine g_eqNL ?_ | with_reducible refine l_eqII ?_ | with_reducible refine l_neII ?_ | with_reducible refine l_eq rfl ?_ | with_reducible refine l_ne rfl ?_
  | with_reducible refine x_fld ?_ | with_reducible refine x_ret ?_ | with_reducible refine x_drop ?_ | with_reducible refine x_next ?_ | with_reducible refine x_tup ?_ | with_reducible refine x_lst ?_ | with_reducible refine x_f ?_ | with_reducible refine x_o ?_ | with_reducible refine x_n ?_
  | with_reducible refine x_bm ?_ | with_reducible refine x_bm0 ?_ | with_reducible refine x_m1 ?_ | with_reducible refine x_m0 ?_ | with_reducible refine x_isstr ?_ | with_reducible refine x_tystr ?_ | with_reducible refine x_sl ?_ | with_reducible refine x_part ?_ | with_reducible refine x_part' ?_ | with_reducible refine x_nopart ?_
  | with_reducible refine x_sfld ?_ | with_reducible refine x_if ?_ | with_reducible refine x_isty ?_ | with_reducible refine x_chain ?_ | with_reducible refine x_andV ?_ | with_reducible refine x_orV ?_ | with_reducible refine x_notV ?_ | with_reducible refine x_B ?_ | with_reducible refine x_and ?_ | with_reducible refine x_or ?_ | with_reducible refine x_not ?_ | with_reducible refine x_tru ?_ | with_reducible refine x_yes ?_
  | with_reducible refine x_un ?_ | with_reducible refine x_neg ?_ | with_reducible refine x_par ?_ | with_reducible refine x_par' ?_ | with_reducible refine x_retN ?_ | with_reducible refine x_brk ?_ | with_reducible refine x_cont ?_ | with_reducible refine x_rz ?_
  | with_reducible refine l_leS ?_ | with_reducible refine l_ltS ?_ | with_reducible refine l_inX ?_ | with_reducible refine l_niX ?_ | with_reducible refine l_inS ?_ | with_reducible refine l_niS ?_ | with_reducible refine l_count ?_ | with_reducible refine l_ord ?_ | with_reducible refine l_max ?_ | with_reducible refine l_min ?_ | with_reducible refine l_intI ?_ | with_reducible refine l_intB ?_ | with_reducible refine l_is ?_ | with_reducible refine l_isn ?_
  | with_reducible refine g_modNL (by decide) ?_ | with_reducible refine g_divNL (by decide) (by decide) ?_ | with_reducible refine l_modI (by decide) ?_ | with_reducible refine x_for ?_ | with_reducible refine x_lc ?_ | with_reducible refine x_ilist ?_ | with_reducible refine x_itup ?_ | with_reducible refine x_istr ?_ | with_reducible refine x_istr' ?_ | with_reducible refine x_irng1 ?_ | with_reducible refine x_irng2 ?_
  | (with_reducible refine x_get (by first | assumption | exact Hold.get0 (by assumption) | exact Hold.get1 (by assumption)) (by assumption) (by assumption) (by walk_at "fg") ?_)
  | (with_reducible refine x_ao (by first | assumption | exact Hold.get0 (by assumption) | exact Hold.get1 (by assumption)) (by kernel_rfl) ?_)
  | with_reducible refine x_ienum ?_ | with_reducible refine x_izip ?_ | with_reducible refine x_chain3 ?_
  | (with_reducible refine x_par2 ?_)
  | (with_reducible refine x_par3 ?_) | (with_reducible refine x_par3' ?_)))
def t_Screen_erase (c : Ctx) (E : XK) : TS :=
  (tSeq (tAsg (tOp (uIx c.K) (tFld c.K (tVar 0) "rows") (tFld c.K (tVar 0) "row")) (gName 2))
  (C8.tCut (tIfS (tTest (tOp (uEq c.K) (tVar 1) (tC (.str ⟨#[101]⟩)))) (sFld c.K (tVar 2) (tOp (uAdd c.K) (tSl (uSl c.K) (tFld c.K (tVar 2) "cells") tNoPart (tPart (tFld c.K (tVar 0) "column"))) (tOp (uMul c.K) (tLst (tCons (tC (v_BLANK c)) tNil)) (tOp uSub (tFld c.K (tVar 0) "wide") (tFld c.K (tVar 0) "column")))) "cells") (tIfS (tTest (tOp (uEq c.K) (tVar 1) (tC (.str ⟨#[98]⟩)))) (sFld c.K (tVar 2) (tOp (uAdd c.K) (tOp (uMul c.K) (tLst (tCons (tC (v_BLANK c)) tNil)) (tOp (uAdd c.K) (tFld c.K (tVar 0) "column") (tC (.int 1)))) (tSl (uSl c.K) (tFld c.K (tVar 2) "cells") (tPart (tOp (uAdd c.K) (tFld c.K (tVar 0) "column") (tC (.int 1)))) tNoPart)) "cells") (tIfS (tTest (tOp (uEq c.K) (tVar 1) (tC (.str ⟨#[107]⟩)))) (sFld c.K (tVar 2) (tOp (uMul c.K) (tLst (tCons (tC (v_BLANK c)) tNil)) (tFld c.K (tVar 0) "wide")) "cells") (sFld c.K (tVar 0) (tLc (iRng1 (tCons (tFld c.K (tVar 0) "high") tNil)) (gName 3) tYes (tF (sp_blank_row c) E0 (tCons (tFld c.K (tVar 0) "wide") tNil)) [3]) "rows")))) (C8.tCut (tIfS (tTest (tOp (uNe c.K) (tVar 1) (tC (.str ⟨#[98]⟩)))) (sFld c.K (tOp (uIx c.K) (tFld c.K (tVar 0) "rows") (tFld c.K (tVar 0) "row")) (tC (.bl false)) "goes_on") tNext) (sFld c.K (tVar 0) (tC (.bl false)) "is_full"))))
abbrev N_Screen_erase : List Str := ["self", "word", "row", "at"]

section
variable {c : Ctx}
theorem dpAll_take {K : PySem.W.Frag} {F : Hp} : ∀ {ys : List V} {ds : List PyData} (i : Nat), DpAll K F ys ds → DpAll K F (ys.take i) (ds.take i)
  | _, _, 0, _ => by rw [List.take_zero, List.take_zero]; exact .nil
  | _, _, _ + 1, .nil => .nil
  | _, _, i + 1, .cons a t => .cons a (dpAll_take i t)
theorem dpAll_drop {K : PySem.W.Frag} {F : Hp} : ∀ {ys : List V} {ds : List PyData} (i : Nat), DpAll K F ys ds → DpAll K F (ys.drop i) (ds.drop i)
  | _, _, 0, h => h
  | _, _, _ + 1, .nil => .nil
  | _, _, i + 1, .cons _ t => dpAll_drop i t
section
variable {K : PySem.W.Frag} {F H : Hp} {L : List (Addr × HO)} {Q : VK} {p : Addr} {xs : List V} {i j : Nat}
theorem n_to (W : Hold F L H) (hp : H p = some (.lst xs)) (k : ∀ (r : Addr) (F' H' : Hp), Same F F' → F' r = some (.lst (xs.take i)) → Hold F' L H' → Q (.ref r) H') : uSl K (.ref p) none (some (i : Int)) H Q :=
  n_slF W (sq_of hp) fun r F' H' s h W' => k r F' H' s (by rw [cutV_L, cutL_to] at h; exact h) W'
theorem n_from (W : Hold F L H) (hp : H p = some (.lst xs)) (k : ∀ (r : Addr) (F' H' : Hp), Same F F' → F' r = some (.lst (xs.drop i)) → Hold F' L H' → Q (.ref r) H') : uSl K (.ref p) (some (i : Int)) none H Q :=
  n_slF W (sq_of hp) fun r F' H' s h W' => k r F' H' s (by rw [cutV_L, cutL_from] at h; exact h) W'
/-- [v] * n -/
theorem n_repF {v : V} (W : Hold F L H) (hp : F p = some (.lst [v])) (h2 : i ≤ 1000) (k : ∀ (r : Addr) (F' H' : Hp), Same F F' → F' r = some (.lst (List.replicate i v)) → Hold F' L H' → Q (.ref r) H') : uMul K (.ref p) (.int (i : Int)) H Q :=
  n_mul1F W (W.old _ _ hp) (by omega) (fun r F' H' s h W' => k r F' H' s (by rw [Int.toNat_natCast] at h; exact h) W') (by omega)
theorem x_pairs_cons {σ : L2.St} {tk tv : TE} {ts : List (TE × TE)} {R : List (V × V) → Hp → Prop} (h : tk σ H fun k H1 => tv σ H1 fun v H2 => tPairs ts σ H2 fun ps H3 => R ((k, v) :: ps) H3) : tPairs ((tk, tv) :: ts) σ H R := h
theorem x_pairs_nil {σ : L2.St} {R : List (V × V) → Hp → Prop} (h : R [] H) : tPairs [] σ H R := h
theorem x_dget {σ : L2.St} {td ty : TE} (h : td σ H fun x H1 => ty σ H1 fun y H2 => ∃ a v, x = .ref a ∧ DGet H2 a y (some v) ∧ Q v H2) : tDGet td ty σ H Q := h
end
def Scr.erase1 (S : Scr) (w : Nat) : Scr :=
  if w = 101 then S.setCells ((S.rowAt S.row).cells.take S.column ++ List.replicate (S.wide - S.column) blankCell)
    else if w = 98 then S.setCells (List.replicate (S.column + 1) blankCell ++ (S.rowAt S.row).cells.drop (S.column + 1))
    else if w = 107 then S.setCells (List.replicate S.wide blankCell)
    else { S with rows := List.replicate S.high (blankRow S.wide) }
def Scr.erase2 (S : Scr) (w : Nat) : Scr := if w = 98 then S.erase1 w else (S.erase1 w).setGoes (S.erase1 w).row false
theorem erase_eq (S : Scr) (w : Nat) : S.erase w = { S.erase2 w with full := false } := rfl
theorem one_in {F : Hp} {r : RowC} (A : cellsAt c F r) : r.vals.length = r.row.cells.length := by
  have := dpAll_len A
  rwa [List.length_map] at this
theorem row_w {C : ScrC} {S : Scr} {F : Hp} {r : RowC} (A : ScrAt c F C S) (h : r ∈ C.rows) : r.row.cells.length = S.wide := A.wf.rw r.row (by rw [← A.rows]; exact List.mem_map_of_mem h)
theorem rd_Screen_erase (U : Tups c) (R : FScreen c) (RR : FRow c) : RD N_Screen_erase (t_Screen_erase c) (sp_Screen_erase c) := by
  have cl := R.cl
  have n2 := R.n_row
  have n3 := R.n_rows
  have n4 := R.n_high
  have n5 := R.n_is_full
  have n7 := R.n_column
  have n8 := R.n_wide
  rintro vs H Q E ⟨s, C, S, w, F, L, rfl, A, W, kk⟩
  have wf := A.wf
  have hw2 := wf.w2
  have hcol := wf.column
  obtain ⟨r, hr, _, hm, hrow, hlt⟩ := row_of A wf.row
  have hwr := row_w A hm
  have hvl := one_in (A.vals r hm)
  unfold t_Screen_erase
  walk_at "r"
  refine x_rowIx A W hr ?_
  walk_at "r"
  have dr : ∀ F1 n, DpAll c.K F1 (List.replicate n (.ref c.aBLANK)) ((List.replicate n blankCell).map Cell.data) := fun F1 n => by rw [List.map_replicate]; exact dp_rep (U.blank F1) n
  refine x_cut (fun σ' H' => ∃ C1 F1 s3, σ' = [some (.ref s), some (.str (T [w])), some (.ref r.a), s3] ∧ Same F F1 ∧ ScrAt c F1 C1 (S.erase1 w) ∧ Hold F1 (scrL c s C1 (S.erase1 w) L) H') ?_ ?_
  · walk_at "r"
    refine wD (fun h => ?_) (fun h => ?_)
    · have h' : w = 101 := one1.mp h
      have e : S.erase1 w = S.setCells ((S.rowAt S.row).cells.take S.column ++ List.replicate (S.wide - S.column) blankCell) := if_pos h'
      rw [e, hrow]
      walk_at "r"
      refine x_cells RR W hr ?_
      walk_at "r"
      refine n_to W (cl_at W hr) fun q1 F1 H1 s1 h1 W1 => ?_
      walk_at "r"
      refine n_lstF W1 (sz rfl) fun q2 F2 H2 s2 h2 W2 => ?_
      walk_at "r"
      have e2 : ((S.wide : Nat) : Int) - ((S.column : Nat) : Int) = ((S.wide - S.column : Nat) : Int) := by omega
      rw [e2]
      refine n_repF W2 h2 (by omega) fun q3 F3 H3 s3 h3 W3 => ?_
      refine n_addL W3 (W3.old _ _ (s3 _ _ (s2 _ _ h1))) (W3.old _ _ h3) (szl (by simp only [List.length_take, List.length_replicate]; omega)) fun q4 H4 W4 => ?_
      walk_at "r"
      have s03 : Same F F3 := (s1.trans s2).trans s3
      have A3 := A.gr (Gr.of s03)
      refine x_cellsPut RR A3 W4 hr (cells := r.row.cells.take S.column ++ List.replicate (S.wide - S.column) blankCell) ?_ ?_ fun C1 H5 A5 _ W5 => ?_
      · rw [List.map_append, List.map_take]
        exact dpAll_app (dpAll_take _ ((Gr.of s03).dpAll (A.vals r hm))) (dr _ _)
      · simp only [List.length_append, List.length_take, List.length_replicate]; omega
      · walk_at "r"
        exact ⟨C1, F3, _, rfl, s03, A5, W5⟩
    · have h' : ¬ w = 101 := fun z => h (one1.mpr z)
      walk_at "r"
      refine wD (fun hb => ?_) (fun hb => ?_)
      · have hb' : w = 98 := one1.mp hb
        have e : S.erase1 w = S.setCells (List.replicate (S.column + 1) blankCell ++ (S.rowAt S.row).cells.drop (S.column + 1)) := by unfold Scr.erase1; rw [if_neg h', if_pos hb']
        rw [e, hrow]
        walk_at "r"
        refine n_lstF W (sz rfl) fun q2 F2 H2 s2 h2 W2 => ?_
        walk_at "r"
        refine n_repF W2 h2 (by show S.column + 1 ≤ 1000; omega) fun q3 F3 H3 s3 h3 W3 => ?_
        walk_at "r"
        have s03 : Same F F3 := s2.trans s3
        have A3 := A.gr (Gr.of s03)
        refine x_cells RR W3 hr ?_
        walk_at "r"
        refine n_from W3 (cl_at W3 hr) fun q1 F1 H1 s1 h1 W1 => ?_
        refine n_addL W1 (W1.old _ _ (s1 _ _ h3)) (W1.old _ _ h1) (szl (by simp only [List.length_drop, List.length_replicate]; show S.column + 1 + _ ≤ _; omega)) fun q4 H4 W4 => ?_
        walk_at "r"
        have A1 := A3.gr (Gr.of s1)
        refine x_cellsPut RR A1 W4 hr (cells := List.replicate (S.column + 1) blankCell ++ r.row.cells.drop (S.column + 1)) ?_ ?_ fun C1 H5 A5 _ W5 => ?_
        · rw [List.map_append, List.map_drop]
          exact dpAll_app (dr _ _) (dpAll_drop _ ((Gr.of (s03.trans s1)).dpAll (A.vals r hm)))
        · simp only [List.length_append, List.length_drop, List.length_replicate]; omega
        · walk_at "r"
          exact ⟨C1, F1, _, rfl, s03.trans s1, A5, W5⟩
      · have hb' : ¬ w = 98 := fun z => hb (one1.mpr z)
        walk_at "r"
        refine wD (fun hk => ?_) (fun hk => ?_)
        · have hk' : w = 107 := one1.mp hk
          have e : S.erase1 w = S.setCells (List.replicate S.wide blankCell) := by unfold Scr.erase1; rw [if_neg h', if_neg hb', if_pos hk']
          rw [e]
          walk_at "r"
          refine n_lstL W (sz rfl) fun q2 H2 W2 => ?_
          walk_at "r"
          refine n_mul1L W2 W2.get0 (by omega) (fun q3 H3 W3 => ?_) (by omega)
          rw [Int.toNat_natCast] at W3
          walk_at "r"
          have W4 : Hold F ((q3, .lst (List.replicate S.wide (.ref c.aBLANK))) :: scrL c s C S L) H3 := W3.sub (List.Sublist.cons₂ _ (List.sublist_cons_self _ _))
          refine x_cellsPut RR A W4 hr (cells := List.replicate S.wide blankCell) (dr _ _) List.length_replicate fun C1 H5 A5 _ W5 => ?_
          walk_at "r"
          exact ⟨C1, F, _, rfl, Same.refl F, A5, W5⟩
        · have hk' : ¬ w = 107 := fun z => hk (one1.mpr z)
          have e : S.erase1 w = { S with rows := List.replicate S.high (blankRow S.wide) } := by unfold Scr.erase1; rw [if_neg h', if_neg hb', if_neg hk']
          rw [e]
          walk_at "r"
          have hh2 := wf.h2
          refine x_irng1' (by omega) (by omega) ?_
          rw [Int.toNat_natCast]
          refine x_fresh R ItOk.rng W rfl fsScreen_g1 wf.w2 (by omega) (by decide) rfl fun D fr F2 H2 s2 hfl hfr hD W2 => ?_
          walk_at "r"
          refine x_put0 W2 cl n3 fsScreen_len fsScreen_p5 fun H3 W3 => ?_
          walk_at "r"
          have A2 := A.gr (Gr.of s2)
          have ef : fr.map (·.row) = List.replicate S.high (blankRow S.wide) := List.eq_replicate_iff.mpr ⟨by rw [List.length_map, hfl], fun p hp => by obtain ⟨r, hr, rfl⟩ := List.mem_map.mp hp; exact (hfr r hr).1⟩
          refine ⟨{ C with pr := D, rows := fr }, F2, _, rfl, s2, ⟨⟨wf.w1, wf.w2, wf.h1, wf.h2, wf.m, List.length_replicate, fun q hq => ?_, wf.pl, wf.pw, wf.row, wf.column, wf.tb, wf.bh, wf.rd⟩, ef, A2.past, fun r hr => (hfr r hr).2, hD, A2.pp, A2.pin, A2.pen, A2.pb⟩, ?_⟩
          · rw [List.eq_of_mem_replicate (show q ∈ List.replicate S.high (blankRow S.wide) from hq)]; exact List.length_replicate
          · exact W3.sub (((List.Sublist.refl (ownR c fr)).append (List.sublist_append_right _ _)).cons₂ _ |>.cons₂ _)
  · rintro σ' H1 ⟨C1, F1, s3, rfl, s1, A1, W1⟩
    rw [erase_eq] at kk
    refine x_cut (fun σ' H' => ∃ C2 s3, σ' = [some (.ref s), some (.str (T [w])), some (.ref r.a), s3] ∧ ScrAt c F1 C2 (S.erase2 w) ∧ Hold F1 (scrL c s C2 (S.erase2 w) L) H') ?_ ?_
    · walk_at "r"
      refine wN (fun h => ?_) (fun h => ?_)
      · have h' : ¬ w = 98 := fun z => h (one1.mpr z)
        have e : S.erase2 w = (S.erase1 w).setGoes (S.erase1 w).row false := if_neg h'
        rw [e]
        obtain ⟨r1, hr1, _⟩ := row_of A1 A1.wf.row
        walk_at "r"
        refine x_rowIx A1 W1 hr1 ?_
        refine x_goes RR A1 W1 hr1 fun C2 H2 A2 W2 => ?_
        exact ⟨C2, s3, rfl, A2, W2⟩
      · have h' : w = 98 := one1.mp h
        have e : S.erase2 w = S.erase1 w := if_pos h'
        rw [e]
        walk_at "r"
        exact ⟨C1, s3, rfl, A1, W1⟩
    · rintro σ2 H2 ⟨C2, s4, rfl, A2, W2⟩
      generalize S.erase2 w = S2 at A2 W2 kk
      walk_at "r"
      refine x_put0 W2 cl n5 fsScreen_len fsScreen_p8 fun H3 W3 => ?_
      walk_at "r"
      have w2 := A2.wf
      exact kk C2 F1 H3 s1 ⟨⟨w2.w1, w2.w2, w2.h1, w2.h2, w2.m, w2.rl, w2.rw, w2.pl, w2.pw, w2.row, w2.column, w2.tb, w2.bh, w2.rd⟩, A2.rows, A2.past, A2.vals, A2.pr, A2.pp, A2.pin, A2.pen, A2.pb⟩ W3
end
end Ss
/-! ## Screens: small -/
namespace Ss
open PySem PySem.Spec PyProof.Rows L2
open Ss in
local macro_rules | `(tactic| walk_at "fg") => `(tactic| first | with_reducible exact fsScreen_g0 | with_reducible exact fsScreen_g1 | with_reducible exact fsScreen_g2 | with_reducible exact fsScreen_g3 | with_reducible exact fsScreen_g4 | with_reducible exact fsScreen_g5 | with_reducible exact fsScreen_g6 | with_reducible exact fsScreen_g7 | with_reducible exact fsScreen_g8 | with_reducible exact fsScreen_g9 | with_reducible exact fsScreen_g10 | with_reducible exact fsScreen_g11 | with_reducible exact fsScreen_g12 | with_reducible exact fsScreen_g13 | with_reducible exact fsRow_g0 | with_reducible exact fsRow_g1 | with_reducible exact fsReader_g0 | with_reducible exact fsReader_g1)
open Ss in
local macro_rules | `(tactic| walk_at "r") => `(tactic| repeat (first
  | with_reducible refine x_seq ?_ | with_reducible refine x_asg ?_ | with_reducible refine x_var rfl ?_ | with_reducible refine x_c ?_ | with_reducible refine x_op ?_ | with_reducible refine x_name ?_ | with_reducible refine x_gcons ?_ | with_reducible refine x_gnil ?_
  | with_reducible refine x_cons ?_ | with_reducible refine x_nil ?_ | with_reducible refine x_cb ?_ | with_reducible refine x_ifs ?_ | with_reducible refine x_test ?_ | with_reducible refine x_bl ?_
  | with_reducible refine g_addNN ?_ | with_reducible refine g_addNL ?_ | with_reducible refine g_addLN ?_ | with_reducible refine l_addI ?_ | with_reducible refine l_subI ?_ | with_reducible refine g_ltNL ?_ | with_reducible refine l_ltI ?_ | with_reducible refine l_leI ?_ | with_reducible refine l_gtI ?_ | with_reducible refine l_geI ?_ | with_reducible refine l_eqX ?_ | with_reducible refine l_neX ?_ | with_reducible refine g_eqNL ?_ | with_reducible refine l_eqII ?_ | with_reducible refine l_neII ?_ | with_reducible refine l_eq rfl ?_ | with_reducible refine l_ne rfl ?_
  | with_reducible refine x_fld ?_ | with_reducible refine x_ret ?_ | with_reducible refine x_drop ?_ | with_reducible refine x_next ?_ | with_reducible refine x_tup ?_ | with_reducible refine x_lst ?_ | with_reducible refine x_f ?_ | with_reducible refine x_o ?_ | with_reducible refine x_n ?_
  | with_reducible refine x_bm ?_ | with_reducible refine x_bm0 ?_ | with_reducible refine x_m1 ?_ | with_reducible refine x_m0 ?_ | with_reducible refine x_isstr ?_ | with_reducible refine x_tystr ?_ | with_reducible refine x_sl ?_ | with_reducible refine x_part ?_ | with_reducible refine x_part' ?_ | with_reducible refine x_nopart ?_
  | with_reducible refine x_sfld ?_ | with_reducible refine x_if ?_ | with_reducible refine x_isty ?_ | with_reducible refine x_chain ?_ | with_reducible refine x_andV ?_ | with_reducible refine x_orV ?_ | with_reducible refine x_notV ?_ | with_reducible refine x_B ?_ | with_reducible refine x_and ?_ | with_reducible refine x_or ?_ | with_reducible refine x_not ?_ | with_reducible refine x_tru ?_ | with_reducible refine x_yes ?_
  | with_reducible refine x_un ?_ | with_reducible refine x_neg ?_ | with_reducible refine x_par ?_ | with_reducible refine x_par' ?_ | with_reducible refine x_retN ?_ | with_reducible refine x_brk ?_ | with_reducible refine x_cont ?_ | with_reducible refine x_rz ?_
  | with_reducible refine l_leS ?_ | with_reducible refine l_ltS ?_ | with_reducible refine l_inX ?_ | with_reducible refine l_niX ?_ | with_reducible refine l_inS ?_ | with_reducible refine l_niS ?_ | with_reducible refine l_count ?_ | with_reducible refine l_ord ?_ | with_reducible refine l_max ?_ | with_reducible refine l_min ?_ | with_reducible refine l_intI ?_ | with_reducible refine l_intB ?_ | with_reducible refine l_is ?_ | with_reducible refine l_isn ?_
  | with_reducible refine g_modNL (by decide) ?_ | with_reducible refine g_divNL (by decide) (by decide) ?_ | with_reducible refine l_modI (by decide) ?_ | with_reducible refine x_for ?_ | with_reducible refine x_lc ?_ | with_reducible refine x_ilist ?_ | with_reducible refine x_itup ?_ | with_reducible refine x_istr ?_ | with_reducible refine x_istr' ?_ | with_reducible refine x_irng1 ?_ | with_reducible refine x_irng2 ?_
  | (with_reducible refine x_get (by first | assumption | exact Hold.get0 (by assumption) | exact Hold.get1 (by assumption)) (by assumption) (by assumption) (by walk_at "fg") ?_)
  | (with_reducible refine x_ao (by first | assumption | exact Hold.get0 (by assumption) | exact Hold.get1 (by assumption)) (by kernel_rfl) ?_)
  | with_reducible refine x_ienum ?_ | with_reducible refine x_izip ?_ | with_reducible refine x_chain3 ?_
  | (with_reducible refine x_par2 ?_)
  | (with_reducible refine x_par3 ?_) | (with_reducible refine x_par3' ?_)))
def t_Screen_small (c : Ctx) (E : XK) : TS :=
  (tIfS (tTest (tOp (uIn c.K) (tVar 1) (tTup (tCons (tC (.str ⟨#[117]⟩)) (tCons (tC (.str ⟨#[100]⟩)) (tCons (tC (.str ⟨#[108]⟩)) (tCons (tC (.str ⟨#[114]⟩)) tNil))))))) (tSeq (tAsg (tDGet (tDisp [((tC (.str ⟨#[117]⟩)), (tTup (tCons (tUn (rU fun i => .int (-i)) (tC (.int 1))) (tCons (tC (.int 0)) tNil)))), ((tC (.str ⟨#[100]⟩)), (tTup (tCons (tC (.int 1)) (tCons (tC (.int 0)) tNil)))), ((tC (.str ⟨#[108]⟩)), (tTup (tCons (tC (.int 0)) (tCons (tUn (rU fun i => .int (-i)) (tC (.int 1))) tNil)))), ((tC (.str ⟨#[114]⟩)), (tTup (tCons (tC (.int 0)) (tCons (tC (.int 1)) tNil))))]) (tVar 1)) (gName 2))
  (tDrop (tO c.cScreen "stand" (sp_Screen_stand c) E0 (tVar 0) (tCons (tOp (uAdd c.K) (tFld c.K (tVar 0) "row") (tOp (uIx c.K) (tVar 2) (tC (.int 0)))) (tCons (tOp (uAdd c.K) (tFld c.K (tVar 0) "column") (tOp (uIx c.K) (tVar 2) (tC (.int 1)))) tNil))))) (tIfS (tTest (tOp (uEq c.K) (tVar 1) (tC (.str ⟨#[104]⟩)))) (tDrop (tO c.cScreen "stand" (sp_Screen_stand c) E0 (tVar 0) (tCons (tC (.int 0)) (tCons (tC (.int 0)) tNil)))) (tIfS (tTest (tOp (uIn c.K) (tVar 1) (tTup (tCons (tC (.str ⟨#[110]⟩)) (tCons (tC (.str ⟨#[112]⟩)) tNil))))) (C8.tCut (tIfS (tTest (tOp (uEq c.K) (tVar 1) (tC (.str ⟨#[110]⟩)))) (tDrop (tO c.cScreen "down" (sp_Screen_down c) E0 (tVar 0) tNil)) (tDrop (tO c.cScreen "up" (sp_Screen_up c) E0 (tVar 0) tNil))) (tDrop (tO c.cScreen "stand" (sp_Screen_stand c) E0 (tVar 0) (tCons (tFld c.K (tVar 0) "row") (tCons (tFld c.K (tVar 0) "column") tNil))))) (tIfS (tTest (tOp (uIn c.K) (tVar 1) (tTup (tCons (tC (.str ⟨#[101]⟩)) (tCons (tC (.str ⟨#[98]⟩)) (tCons (tC (.str ⟨#[107]⟩)) (tCons (tC (.str ⟨#[99]⟩)) tNil))))))) (tDrop (tO c.cScreen "erase" (sp_Screen_erase c) E0 (tVar 0) (tCons (tVar 1) tNil))) (tIfS (tTest (tOp (uEq c.K) (tVar 1) (tC (.str ⟨#[115]⟩)))) (sFld c.K (tVar 0) (tTup (tCons (tFld c.K (tVar 0) "row") (tCons (tFld c.K (tVar 0) "column") (tCons (tFld c.K (tVar 0) "pen") tNil)))) "put_by") (tIfS (tTest (tOp (uEq c.K) (tVar 1) (tC (.str ⟨#[116]⟩)))) (tSeq (tDrop (tO c.cScreen "stand" (sp_Screen_stand c) E0 (tVar 0) (tCons (tOp (uIx c.K) (tFld c.K (tVar 0) "put_by") (tC (.int 0))) (tCons (tOp (uIx c.K) (tFld c.K (tVar 0) "put_by") (tC (.int 1))) tNil))))
  (sFld c.K (tVar 0) (tOp (uIx c.K) (tFld c.K (tVar 0) "put_by") (tC (.int 2))) "pen")) (tIfS (tTest (tOp (uEq c.K) (tVar 1) (tC (.str ⟨#[122]⟩)))) (tDrop (tO c.cScreen "begin" (sp_Screen_begin c) E0 (tVar 0) tNil)) tNext)))))))
abbrev N_Screen_small : List Str := ["self", "word", "by"]

section
variable {c : Ctx}
theorem get4a {a b d e : V} : valV (mergeK [] [(Sum.inr (T [117]), a), (Sum.inr (T [100]), b), (Sum.inr (T [108]), d), (Sum.inr (T [114]), e)]) (Sum.inr (T [117])) = some a := by kernel_rfl
theorem get4b {a b d e : V} : valV (mergeK [] [(Sum.inr (T [117]), a), (Sum.inr (T [100]), b), (Sum.inr (T [108]), d), (Sum.inr (T [114]), e)]) (Sum.inr (T [100])) = some b := by kernel_rfl
theorem get4c {a b d e : V} : valV (mergeK [] [(Sum.inr (T [117]), a), (Sum.inr (T [100]), b), (Sum.inr (T [108]), d), (Sum.inr (T [114]), e)]) (Sum.inr (T [108])) = some d := by kernel_rfl
theorem get4d {a b d e : V} : valV (mergeK [] [(Sum.inr (T [117]), a), (Sum.inr (T [100]), b), (Sum.inr (T [108]), d), (Sum.inr (T [114]), e)]) (Sum.inr (T [114])) = some e := by kernel_rfl
theorem dget_of {H : Hp} {a : Addr} {kvs : List (Key × V)} {z : Str} {v : V} (h : H a = some (.dK kvs)) (e : valV kvs (Sum.inr z) = some v) : DGet H a (.str z) (some v) := by
  have := DGet.k (k := Sum.inr z) h
  rw [e] at this; exact this
theorem l_ixT' {K : PySem.W.Frag} {H : Hp} {Q : VK} {x v : V} {p : Addr} {xs : List V} {i : Int} (ex : x = .ref p) (hp : SqT K H p xs) (ha : atI xs i = some v) (h : Q v H) : uIx K x (.int i) H Q := by subst ex; exact l_ixT hp ha h
theorem ScrAt.pre {F : Hp} {C : ScrC} {S : Scr} (A : ScrAt c F C S) : PreAt c F C S := ⟨A.wf.w1, A.wf.w2, A.wf.h1, A.wf.h2, A.wf.m, A.wf.pl, A.wf.pw, A.wf.rd, A.past, A.pp, A.pin⟩
theorem rd_Screen_small (R : FScreen c) : RD N_Screen_small (t_Screen_small c) (sp_Screen_small c) := by
  have cl := R.cl
  have n2 := R.n_row
  have n6 := R.n_pen
  have n7 := R.n_column
  have n9 := R.n_put_by
  rintro vs H Q E ⟨s, C, S, w, F, L, rfl, A, W, kk⟩
  have wf := A.wf
  unfold t_Screen_small
  walk_at "r"
  refine n_tupF W (sz rfl) fun p1 F1 H1 s1 h1 W1 => ?_
  refine l_inC [117, 100, 108, 114] (st_of (W1.old _ _ h1)) ?_
  walk_at "r"
  have A1 := A.gr (Gr.of s1)
  refine wD (fun h => ?_) (fun h => ?_)
  · walk_at "r"
    refine x_dget fun p hp => ?_
    have W2 := W1.make (o := .dK []) hp
    refine x_pairs_cons ?_
    walk_at "r"
    refine n_tupF W2 (sz rfl) fun q1 F3 H3 s3 h3 W3 => ?_
    refine x_pairs_cons ?_
    walk_at "r"
    refine n_tupF W3 (sz rfl) fun q2 F4 H4 s4 h4 W4 => ?_
    refine x_pairs_cons ?_
    walk_at "r"
    refine n_tupF W4 (sz rfl) fun q3 F5 H5 s5 h5 W5 => ?_
    refine x_pairs_cons ?_
    walk_at "r"
    refine n_tupF W5 (sz rfl) fun q4 F6 H6 s6 h6 W6 => ?_
    refine x_pairs_nil ⟨W6.get0, [(Sum.inr (T [117]), .ref q1), (Sum.inr (T [100]), .ref q2), (Sum.inr (T [108]), .ref q3), (Sum.inr (T [114]), .ref q4)], rfl, by show 4 ≤ 15; decide, ?_⟩
    have W7 := W6.put0 (o' := .dK (mergeK [] [(Sum.inr (T [117]), .ref q1), (Sum.inr (T [100]), .ref q2), (Sum.inr (T [108]), .ref q3), (Sum.inr (T [114]), .ref q4)]))
    have W8 := W7.drop
    have s16 : Same F F6 := (((s1.trans s3).trans s4).trans s5).trans s6
    have A6 := A.gr (Gr.of s16)
    walk_at "r"
    have h' : w = 117 ∨ w = 100 ∨ w = 108 ∨ w = 114 := by simpa using h
    rcases h' with rfl | rfl | rfl | rfl
    · refine ⟨p, .ref q1, rfl, dget_of W7.get0 get4a, ?_⟩
      have e : S.small 117 = S.stand ((S.row : Int) + -1) ((S.column : Int) + 0) := by rw [Int.add_zero]; rfl
      rw [e] at kk
      walk_at "r"
      refine l_ixT (st_of (W8.old _ _ (s6 _ _ (s5 _ _ (s4 _ _ h3))))) rfl ?_
      walk_at "r"
      refine l_ixT (st_of (W8.old _ _ (s6 _ _ (s5 _ _ (s4 _ _ h3))))) rfl ?_
      walk_at "r"
      refine ⟨s, C, S, _, _, F6, L, rfl, A6, W8.st, fun C2 F8 H8 s8 A8 W9 => ?_⟩
      walk_at "r"
      exact kk C2 F8 H8 (s16.trans s8) A8 W9
    · refine ⟨p, .ref q2, rfl, dget_of W7.get0 get4b, ?_⟩
      have e : S.small 100 = S.stand ((S.row : Int) + 1) ((S.column : Int) + 0) := by rw [Int.add_zero]; rfl
      rw [e] at kk
      walk_at "r"
      refine l_ixT (st_of (W8.old _ _ (s6 _ _ (s5 _ _ h4)))) rfl ?_
      walk_at "r"
      refine l_ixT (st_of (W8.old _ _ (s6 _ _ (s5 _ _ h4)))) rfl ?_
      walk_at "r"
      refine ⟨s, C, S, _, _, F6, L, rfl, A6, W8.st, fun C2 F8 H8 s8 A8 W9 => ?_⟩
      walk_at "r"
      exact kk C2 F8 H8 (s16.trans s8) A8 W9
    · refine ⟨p, .ref q3, rfl, dget_of W7.get0 get4c, ?_⟩
      have e : S.small 108 = S.stand ((S.row : Int) + 0) ((S.column : Int) + -1) := by rw [Int.add_zero]; rfl
      rw [e] at kk
      walk_at "r"
      refine l_ixT (st_of (W8.old _ _ (s6 _ _ h5))) rfl ?_
      walk_at "r"
      refine l_ixT (st_of (W8.old _ _ (s6 _ _ h5))) rfl ?_
      walk_at "r"
      refine ⟨s, C, S, _, _, F6, L, rfl, A6, W8.st, fun C2 F8 H8 s8 A8 W9 => ?_⟩
      walk_at "r"
      exact kk C2 F8 H8 (s16.trans s8) A8 W9
    · refine ⟨p, .ref q4, rfl, dget_of W7.get0 get4d, ?_⟩
      have e : S.small 114 = S.stand ((S.row : Int) + 0) ((S.column : Int) + 1) := by rw [Int.add_zero]; rfl
      rw [e] at kk
      walk_at "r"
      refine l_ixT (st_of (W8.old _ _ h6)) rfl ?_
      walk_at "r"
      refine l_ixT (st_of (W8.old _ _ h6)) rfl ?_
      walk_at "r"
      refine ⟨s, C, S, _, _, F6, L, rfl, A6, W8.st, fun C2 F8 H8 s8 A8 W9 => ?_⟩
      walk_at "r"
      exact kk C2 F8 H8 (s16.trans s8) A8 W9
  · have h' : ¬ w = 117 ∧ ¬ w = 100 ∧ ¬ w = 108 ∧ ¬ w = 114 := by simpa using h
    obtain ⟨m1, m2, m3, m4⟩ := h'
    walk_at "r"
    refine wD (fun h => ?_) (fun h => ?_)
    · have hw : w = 104 := one1.mp h
      subst hw
      walk_at "r"
      refine ⟨s, C, S, 0, 0, F1, L, rfl, A1, W1.st, fun C2 F8 H8 s8 A8 W9 => ?_⟩
      walk_at "r"
      exact kk C2 F8 H8 (s1.trans s8) A8 W9
    have m5 : ¬ w = 104 := fun z => h (one1.mpr z)
    walk_at "r"
    refine n_tupF W1 (sz rfl) fun p2 F2 H2 s2 h2 W2 => ?_
    refine l_inC [110, 112] (st_of (W2.old _ _ h2)) ?_
    walk_at "r"
    have A2 := A1.gr (Gr.of s2)
    have s02 : Same F F2 := s1.trans s2
    refine wD (fun h => ?_) (fun h => ?_)
    · have h' : w = 110 ∨ w = 112 := by simpa using h
      refine x_cut (fun σ' H' => ∃ C3 F3, σ' = [some (.ref s), some (.str (T [w])), none] ∧ Same F F3 ∧ ScrAt c F3 C3 (if w = 110 then S.down else S.up) ∧ Hold F3 (scrL c s C3 (if w = 110 then S.down else S.up) L) H') ?_ ?_
      · walk_at "r"
        refine wD (fun h => ?_) (fun h => ?_)
        · have hw : w = 110 := one1.mp h
          rw [if_pos hw]
          walk_at "r"
          refine ⟨s, C, S, F2, L, rfl, A2, W2, fun C2 F8 H8 s8 A8 W9 => ?_⟩
          walk_at "r"
          exact ⟨C2, F8, rfl, s02.trans s8, A8, W9⟩
        · rw [if_neg (fun z => h (one1.mpr z))]
          walk_at "r"
          refine ⟨s, C, S, F2, L, rfl, A2, W2, fun C2 F8 H8 s8 A8 W9 => ?_⟩
          walk_at "r"
          exact ⟨C2, F8, rfl, s02.trans s8, A8, W9⟩
      · rintro σ' H3 ⟨C3, F3, rfl, s3, A3, W3⟩
        have e : S.small w = (if w = 110 then S.down else S.up).stand (if w = 110 then S.down else S.up).row (if w = 110 then S.down else S.up).column := by
          rcases h' with rfl | rfl <;> rfl
        rw [e] at kk
        generalize (if w = 110 then S.down else S.up) = S3 at A3 W3 kk
        walk_at "r"
        refine ⟨s, C3, S3, _, _, F3, L, rfl, A3, W3.st, fun C2 F8 H8 s8 A8 W9 => ?_⟩
        walk_at "r"
        exact kk C2 F8 H8 (s3.trans s8) A8 W9
    have h' : ¬ w = 110 ∧ ¬ w = 112 := by simpa using h
    obtain ⟨m6, m7⟩ := h'
    walk_at "r"
    refine n_tupF W2 (sz rfl) fun p3 F3 H3 s3 h3 W3 => ?_
    refine l_inC [101, 98, 107, 99] (st_of (W3.old _ _ h3)) ?_
    walk_at "r"
    have A3 := A2.gr (Gr.of s3)
    have s03 : Same F F3 := s02.trans s3
    refine wD (fun h => ?_) (fun h => ?_)
    · have h' : w = 101 ∨ w = 98 ∨ w = 107 ∨ w = 99 := by simpa using h
      have e : S.small w = S.erase w := by rcases h' with rfl | rfl | rfl | rfl <;> rfl
      rw [e] at kk
      walk_at "r"
      refine ⟨s, C, S, w, F3, L, rfl, A3, W3, fun C2 F8 H8 s8 A8 W9 => ?_⟩
      walk_at "r"
      exact kk C2 F8 H8 (s03.trans s8) A8 W9
    have m8 : ¬ (w = 101 ∨ w = 98 ∨ w = 107 ∨ w = 99) := by simpa using h
    have e0 : S.small w = (if w = 115 then { S with putBy := (S.row, S.column, S.pen) } else if w = 116 then { S.stand S.putBy.1 S.putBy.2.1 with pen := S.putBy.2.2 } else if w = 122 then S.begin else S) := by
      unfold Scr.small
      rw [if_neg m1, if_neg m2, if_neg m3, if_neg m4, if_neg m5, if_neg m6, if_neg m7, if_neg m8]
    rw [e0] at kk
    walk_at "r"
    refine wD (fun h => ?_) (fun h => ?_)
    · rw [if_pos (one1.mp h)] at kk
      walk_at "r"
      refine n_tupF W3 (sz rfl) fun p4 F4 H4 s4 h4 W4 => ?_
      walk_at "r"
      refine x_put0 W4 cl n9 fsScreen_len fsScreen_p12 fun H5 W5 => ?_
      walk_at "r"
      have A4 := A3.gr (Gr.of s4)
      exact kk { C with pbv := .ref p4 } F4 H5 (s03.trans s4) ⟨⟨wf.w1, wf.w2, wf.h1, wf.h2, wf.m, wf.rl, wf.rw, wf.pl, wf.pw, wf.row, wf.column, wf.tb, wf.bh, wf.rd⟩, A4.rows, A4.past, A4.vals, A4.pr, A4.pp, A4.pin, A4.pen, ⟨p4, C.penv, rfl, st_of h4, A4.pen⟩⟩ W5
    rw [if_neg (fun z => h (one1.mpr z))] at kk
    walk_at "r"
    refine wD (fun h => ?_) (fun h => ?_)
    · rw [if_pos (one1.mp h)] at kk
      walk_at "r"
      obtain ⟨q, pv, eq, hq, hd⟩ := A3.pb
      refine l_ixT' eq (W3.gr.sqT hq) rfl ?_
      walk_at "r"
      refine l_ixT' eq (W3.gr.sqT hq) rfl ?_
      walk_at "r"
      refine ⟨s, C, S, _, _, F3, L, rfl, A3, W3.st, fun C2 F8 H8 s8 A8 W9 => ?_⟩
      walk_at "r"
      obtain ⟨q2, pv2, eq2, hq2, hd2⟩ := A8.pb
      refine l_ixT' eq2 (W9.gr.sqT hq2) rfl ?_
      walk_at "r"
      refine x_put0 W9 cl n6 fsScreen_len fsScreen_p9 fun H5 W5 => ?_
      walk_at "r"
      have w8 := A8.wf
      exact kk { C2 with penv := pv2 } F8 H5 (s03.trans s8) ⟨⟨w8.w1, w8.w2, w8.h1, w8.h2, w8.m, w8.rl, w8.rw, w8.pl, w8.pw, w8.row, w8.column, w8.tb, w8.bh, w8.rd⟩, A8.rows, A8.past, A8.vals, A8.pr, A8.pp, A8.pin, hd2, A8.pb⟩ W5
    rw [if_neg (fun z => h (one1.mpr z))] at kk
    walk_at "r"
    refine wD (fun h => ?_) (fun h => ?_)
    · rw [if_pos (one1.mp h)] at kk
      walk_at "r"
      refine ⟨s, C, S, _, F3, ownR c C.rows ++ L, rfl, .inl rfl, A3.pre, W3, fun C2 F8 H8 s8 A8 W9 => ?_⟩
      walk_at "r"
      refine kk C2 F8 H8 (s03.trans s8) A8 (W9.sub ?_)
      exact (((List.Sublist.refl (ownR c C2.rows)).append (List.sublist_append_right _ _)).cons₂ _).cons₂ _
    rw [if_neg (fun z => h (one1.mpr z))] at kk
    walk_at "r"
    exact kk C F3 H3 s03 A3 W3
end
end Ss
/-! ## Screens: shift, take_rows, one, great, do -/
namespace Ss
open PySem PySem.Spec PyProof.Rows L2
open Ss in
local macro_rules | `(tactic| walk_at "fg") => `(tactic| first | with_reducible exact fsScreen_g0 | with_reducible exact fsScreen_g1 | with_reducible exact fsScreen_g2 | with_reducible exact fsScreen_g3 | with_reducible exact fsScreen_g4 | with_reducible exact fsScreen_g5 | with_reducible exact fsScreen_g6 | with_reducible exact fsScreen_g7 | with_reducible exact fsScreen_g8 | with_reducible exact fsScreen_g9 | with_reducible exact fsScreen_g10 | with_reducible exact fsScreen_g11 | with_reducible exact fsScreen_g12 | with_reducible exact fsScreen_g13 | with_reducible exact fsRow_g0 | with_reducible exact fsRow_g1 | with_reducible exact fsReader_g0 | with_reducible exact fsReader_g1)
open Ss in
local macro_rules | `(tactic| walk_at "r") => `(tactic| repeat (first
  | with_reducible refine x_seq ?_ | with_reducible refine x_asg ?_ | with_reducible refine x_var rfl ?_ | with_reducible refine x_c ?_ | with_reducible refine x_op ?_ | with_reducible refine x_name ?_ | with_reducible refine x_gcons ?_ | with_reducible refine x_gnil ?_
  | with_reducible refine x_cons ?_ | with_reducible refine x_nil ?_ | with_reducible refine x_cb ?_ | with_reducible refine x_ifs ?_ | with_reducible refine x_test ?_ | with_reducible refine x_bl ?_
  | with_reducible refine g_addNN ?_ | with_reducible refine g_addNL ?_ | with_reducible refine g_addLN ?_ | with_reducible refine l_addI ?_ | with_reducible refine l_subI ?_ | with_reducible refine g_ltNL ?_ | with_reducible refine l_ltI ?_ | with_reducible refine l_leI ?_ | with_reducible refine l_gtI ?_ | with_reducible refine l_geI ?_ | with_reducible refine l_eqX ?_ | with_reducible refine l_neX ?_ | with_reducible refine g_eqNL ?_ | with_reducible refine l_eqII ?_ | with_reducible refine l_neII ?_ | with_reducible refine l_eq rfl ?_ | with_reducible refine l_ne rfl ?_
  | with_reducible refine x_fld ?_ | with_reducible refine x_ret ?_ | with_reducible refine x_drop ?_ | with_reducible refine x_next ?_ | with_reducible refine x_tup ?_ | with_reducible refine x_lst ?_ | with_reducible refine x_f ?_ | with_reducible refine x_o ?_ | with_reducible refine x_n ?_
  | with_reducible refine x_bm ?_ | with_reducible refine x_bm0 ?_ | with_reducible refine x_m1 ?_ | with_reducible refine x_m0 ?_ | with_reducible refine x_isstr ?_ | with_reducible refine x_tystr ?_ | with_reducible refine x_sl ?_ | with_reducible refine x_part ?_ | with_reducible refine x_part' ?_ | with_reducible refine x_nopart ?_
  | with_reducible refine x_sfld ?_ | with_reducible refine x_if ?_ | with_reducible refine x_isty ?_ | with_reducible refine x_chain ?_ | with_reducible refine x_andV ?_ | with_reducible refine x_orV ?_ | with_reducible refine x_notV ?_ | with_reducible refine x_B ?_ | with_reducible refine x_and ?_ | with_reducible refine x_or ?_ | with_reducible refine x_not ?_ | with_reducible refine x_tru ?_ | with_reducible refine x_yes ?_
  | with_reducible refine x_un ?_ | with_reducible refine x_neg ?_ | with_reducible refine x_par ?_ | with_reducible refine x_par' ?_ | with_reducible refine x_retN ?_ | with_reducible refine x_brk ?_ | with_reducible refine x_cont ?_ | with_reducible refine x_rz ?_
  | with_reducible refine l_leS ?_ | with_reducible refine l_ltS ?_ | with_reducible refine l_inX ?_ | with_reducible refine l_niX ?_ | with_reducible refine l_inS ?_ | with_reducible refine l_niS ?_ | with_reducible refine l_count ?_ | with_reducible refine l_ord ?_ | with_reducible refine l_max ?_ | with_reducible refine l_min ?_ | with_reducible refine l_intI ?_ | with_reducible refine l_intB ?_ | with_reducible refine l_is ?_ | with_reducible refine l_isn ?_
  | with_reducible refine g_modNL (by decide) ?_ | with_reducible refine g_divNL (by decide) (by decide) ?_ | with_reducible refine l_modI (by decide) ?_ | with_reducible refine x_for ?_ | with_reducible refine x_lc ?_ | with_reducible refine x_ilist ?_ | with_reducible refine x_itup ?_ | with_reducible refine x_istr ?_ | with_reducible refine x_istr' ?_ | with_reducible refine x_irng1 ?_ | with_reducible refine x_irng2 ?_
  | (with_reducible refine x_get (by first | assumption | exact Hold.get0 (by assumption) | exact Hold.get1 (by assumption)) (by assumption) (by assumption) (by walk_at "fg") ?_)
  | (with_reducible refine x_ao (by first | assumption | exact Hold.get0 (by assumption) | exact Hold.get1 (by assumption)) (by kernel_rfl) ?_)
  | with_reducible refine x_ienum ?_ | with_reducible refine x_izip ?_ | with_reducible refine x_chain3 ?_
  | (with_reducible refine x_par2 ?_)
  | (with_reducible refine x_par3 ?_) | (with_reducible refine x_par3' ?_)))
def t_Screen_shift (c : Ctx) (E : XK) : TS :=
  (tSeq (tAsg (tOp (uIx c.K) (tFld c.K (tVar 0) "rows") (tFld c.K (tVar 0) "row")) (gName 3))
  (tSeq (tPar 4 5 (tCons (tSl (uSl c.K) (tFld c.K (tVar 3) "cells") tNoPart (tPart (tFld c.K (tVar 0) "column"))) (tCons (tSl (uSl c.K) (tFld c.K (tVar 3) "cells") (tPart (tFld c.K (tVar 0) "column")) tNoPart) tNil)))
  (C8.tCut (tIfS (tTest (tOp (uEq c.K) (tVar 1) (tC (.str ⟨#[88]⟩)))) (sFld c.K (tVar 3) (tOp (uAdd c.K) (tOp (uAdd c.K) (tVar 4) (tSl (uSl c.K) (tVar 5) (tPart (tVar 2)) tNoPart)) (tOp (uMul c.K) (tLst (tCons (tC (v_BLANK c)) tNil)) (tVar 2))) "cells") (sFld c.K (tVar 3) (tOp (uAdd c.K) (tOp (uAdd c.K) (tVar 4) (tOp (uMul c.K) (tLst (tCons (tC (v_BLANK c)) tNil)) (tVar 2))) (tSl (uSl c.K) (tVar 5) tNoPart (tPart (tOp uSub (tCB (uLen c.K) (tCons (tVar 5) tNil)) (tVar 2))))) "cells")) (tSeq (sFld c.K (tVar 3) (tC (.bl false)) "goes_on")
  (sFld c.K (tVar 0) (tC (.bl false)) "is_full")))))
abbrev N_Screen_shift : List Str := ["self", "word", "many", "row", "ahead", "rest"]

def t_Screen_take_rows (c : Ctx) (E : XK) : TS :=
  (tSeq (tAsg (tFld c.K (tVar 0) "past") (gName 2))
  (tSeq (tDrop (tO c.cScreen "roll" (sp_Screen_roll c) E0 (tVar 0) (tCons (tFld c.K (tVar 0) "row") (tCons (tVar 1) tNil))))
  (sFld c.K (tVar 0) (tVar 2) "past")))
abbrev N_Screen_take_rows : List Str := ["self", "number", "past"]

section
variable {c : Ctx}
def Scr.shiftCells (S : Scr) (w many : Nat) : List Cell :=
  if w = 88 then (S.rowAt S.row).cells.take S.column ++ ((S.rowAt S.row).cells.drop S.column).drop many ++ List.replicate many blankCell
  else (S.rowAt S.row).cells.take S.column ++ List.replicate many blankCell ++ ((S.rowAt S.row).cells.drop S.column).take (((S.rowAt S.row).cells.drop S.column).length - many)
theorem shift_eq (S : Scr) (w many : Nat) : S.shift w many = { (S.setCells (S.shiftCells w many)).setGoes S.row false with full := false } := rfl
theorem rd_Screen_shift (U : Tups c) (R : FScreen c) (RR : FRow c) : RD N_Screen_shift (t_Screen_shift c) (sp_Screen_shift c) := by
  have cl := R.cl
  have n2 := R.n_row
  have n3 := R.n_rows
  have n5 := R.n_is_full
  have n7 := R.n_column
  rintro vs H Q E ⟨s, C, S, w, many, F, L, rfl, hmany, A, W, kk⟩
  have wf := A.wf
  have hw2 := wf.w2
  have hcol := wf.column
  obtain ⟨r, hr, _, hm, hrow, hlt⟩ := row_of A wf.row
  have hwr := row_w A hm
  have hvl := one_in (A.vals r hm)
  rw [shift_eq] at kk
  unfold t_Screen_shift
  walk_at "r"
  refine x_rowIx A W hr ?_
  walk_at "r"
  have dr : ∀ F1 n, DpAll c.K F1 (List.replicate n (.ref c.aBLANK)) ((List.replicate n blankCell).map Cell.data) := fun F1 n => by rw [List.map_replicate]; exact dp_rep (U.blank F1) n
  refine x_cells RR W hr ?_
  walk_at "r"
  refine n_to W (cl_at W hr) fun q1 F1 H1 s1 h1 W1 => ?_
  walk_at "r"
  refine x_cells RR W1 hr ?_
  walk_at "r"
  refine n_from W1 (cl_at W1 hr) fun q2 F2 H2 s2 h2 W2 => ?_
  walk_at "r"
  refine ⟨_, _, rfl, ?_⟩
  refine x_cut (fun σ' H' => ∃ C1 F3 cl' vals', σ' = [some (.ref s), some (.str (T [w])), some (.int (many : Nat)), some (.ref r.a), some (.ref q1), some (.ref q2)] ∧ Same F F3 ∧ ScrAt c F3 C1 (S.setCells (S.shiftCells w many)) ∧
    C1.rows[S.row]? = some { r with cl := cl', vals := vals', row := { r.row with cells := S.shiftCells w many } } ∧ Hold F3 (scrL c s C1 (S.setCells (S.shiftCells w many)) L) H') ?_ ?_
  · walk_at "r"
    refine wD (fun h => ?_) (fun h => ?_)
    · have h' : w = 88 := one1.mp h
      have e : S.shiftCells w many = r.row.cells.take S.column ++ (r.row.cells.drop S.column).drop many ++ List.replicate many blankCell := by unfold Scr.shiftCells; rw [if_pos h', hrow]
      rw [e]
      walk_at "r"
      refine n_from W2 (W2.old _ _ h2) fun q3 F3 H3 s3 h3 W3 => ?_
      refine n_addF W3 (W3.old _ _ (s3 _ _ (s2 _ _ h1))) (W3.old _ _ h3) (szl (by simp only [List.length_take, List.length_drop]; omega)) fun q4 F4 H4 s4 h4 W4 => ?_
      walk_at "r"
      refine n_lstF W4 (sz rfl) fun q5 F5 H5 s5 h5 W5 => ?_
      walk_at "r"
      refine n_repF W5 h5 (by omega) fun q6 F6 H6 s6 h6 W6 => ?_
      refine n_addL W6 (W6.old _ _ (s6 _ _ (s5 _ _ h4))) (W6.old _ _ h6) (szl (by simp only [List.length_append, List.length_take, List.length_drop, List.length_replicate]; omega)) fun q7 H7 W7 => ?_
      walk_at "r"
      have s06 : Same F F6 := ((((s1.trans s2).trans s3).trans s4).trans s5).trans s6
      have A6 := A.gr (Gr.of s06)
      have v6 := (Gr.of s06).dpAll (A.vals r hm)
      refine x_cellsPut RR A6 W7 hr (cells := r.row.cells.take S.column ++ (r.row.cells.drop S.column).drop many ++ List.replicate many blankCell) ?_ ?_ fun C1 H8 A8 hr8 W8 => ?_
      · rw [List.map_append, List.map_append, List.map_take, List.map_drop, List.map_drop]
        exact dpAll_app (dpAll_app (dpAll_take _ v6) (dpAll_drop _ (dpAll_drop _ v6))) (dr _ _)
      · simp only [List.length_append, List.length_take, List.length_drop, List.length_replicate]; omega
      · walk_at "r"
        exact ⟨C1, F6, _, _, rfl, s06, A8, hr8, W8⟩
    · have h' : ¬ w = 88 := fun z => h (one1.mpr z)
      have e : S.shiftCells w many = r.row.cells.take S.column ++ List.replicate many blankCell ++ (r.row.cells.drop S.column).take ((r.row.cells.drop S.column).length - many) := by unfold Scr.shiftCells; rw [if_neg h', hrow]
      rw [e]
      walk_at "r"
      refine n_lstF W2 (sz rfl) fun q5 F5 H5 s5 h5 W5 => ?_
      walk_at "r"
      refine n_repF W5 h5 (by omega) fun q6 F6 H6 s6 h6 W6 => ?_
      refine n_addF W6 (W6.old _ _ (s6 _ _ (s5 _ _ (s2 _ _ h1)))) (W6.old _ _ h6) (szl (by simp only [List.length_take, List.length_replicate]; omega)) fun q4 F4 H4 s4 h4 W4 => ?_
      walk_at "r"
      have h2' := s4 _ _ (s6 _ _ (s5 _ _ h2))
      refine l_lenL (sq_of (W4.old _ _ h2')) ?_
      walk_at "r"
      have e2 : (((r.vals.drop S.column).length : Nat) : Int) - ((many : Nat) : Int) = (((r.row.cells.drop S.column).length - many : Nat) : Int) := by
        simp only [List.length_drop]; omega
      rw [e2]
      refine n_to W4 (W4.old _ _ h2') fun q3 F3 H3 s3 h3 W3 => ?_
      refine n_addL W3 (W3.old _ _ (s3 _ _ h4)) (W3.old _ _ h3) (szl (by simp only [List.length_append, List.length_take, List.length_drop, List.length_replicate]; omega)) fun q7 H7 W7 => ?_
      walk_at "r"
      have s06 : Same F F3 := ((((s1.trans s2).trans s5).trans s6).trans s4).trans s3
      have A6 := A.gr (Gr.of s06)
      have v6 := (Gr.of s06).dpAll (A.vals r hm)
      refine x_cellsPut RR A6 W7 hr (cells := r.row.cells.take S.column ++ List.replicate many blankCell ++ (r.row.cells.drop S.column).take ((r.row.cells.drop S.column).length - many)) ?_ ?_ fun C1 H8 A8 hr8 W8 => ?_
      · rw [List.map_append, List.map_append, List.map_take, List.map_take, List.map_drop]
        exact dpAll_app (dpAll_app (dpAll_take _ v6) (dr _ _)) (dpAll_take _ (dpAll_drop _ v6))
      · simp only [List.length_append, List.length_take, List.length_drop, List.length_replicate]; omega
      · walk_at "r"
        exact ⟨C1, F3, _, _, rfl, s06, A8, hr8, W8⟩
  · rintro σ' H3 ⟨C1, F3, cl', vals', rfl, s3, A3, hr3, W3⟩
    walk_at "r"
    refine x_goes (r := { r with cl := cl', vals := vals', row := { r.row with cells := S.shiftCells w many } }) RR A3 W3 hr3 fun C4 H4 A4 W4 => ?_
    walk_at "r"
    refine x_put0 W4 cl n5 fsScreen_len fsScreen_p8 fun H5 W5 => ?_
    walk_at "r"
    have w2 := A4.wf
    exact kk C4 F3 H5 s3 ⟨⟨w2.w1, w2.w2, w2.h1, w2.h2, w2.m, w2.rl, w2.rw, w2.pl, w2.pw, w2.row, w2.column, w2.tb, w2.bh, w2.rd⟩, A4.rows, A4.past, A4.vals, A4.pr, A4.pp, A4.pin, A4.pen, A4.pb⟩ W5
theorem rd_Screen_take_rows (R : FScreen c) : RD N_Screen_take_rows (t_Screen_take_rows c) (sp_Screen_take_rows c) := by
  have cl := R.cl
  have n2 := R.n_row
  have n3 := R.n_past
  rintro vs H Q E ⟨s, C, S, n, F, L, rfl, hb, A, W, kk⟩
  have wf := A.wf
  unfold t_Screen_take_rows
  walk_at "r"
  refine ⟨s, C, S, S.row, n, F, L, rfl, hb, A, W, fun C2 F2 H2 s2 A2 W2 => ?_⟩
  walk_at "r"
  refine x_put0 W2 cl n3 fsScreen_len fsScreen_p4 fun H3 W3 => ?_
  walk_at "r"
  have w2 := A2.wf
  have Ao := A.gr (Gr.of s2)
  have hm : (S.roll S.row n).most = S.most := by unfold Scr.roll Scr.cutOff; split <;> rfl
  have hw : (S.roll S.row n).wide = S.wide := by unfold Scr.roll Scr.cutOff; split <;> rfl
  exact kk { C2 with pp := C.pp, past := C.past } F2 H3 s2 ⟨⟨w2.w1, w2.w2, w2.h1, w2.h2, w2.m, w2.rl, w2.rw, by show S.past.length ≤ (S.roll S.row n).most; rw [hm]; exact wf.pl, by show ∀ p ∈ S.past, p.cells.length = (S.roll S.row n).wide; rw [hw]; exact wf.pw, w2.row, w2.column, w2.tb, w2.bh, w2.rd⟩, A2.rows, Ao.past, A2.vals, A2.pr, Ao.pp, Ao.pin, A2.pen, A2.pb⟩ W3
end
end Ss
/-! ## Screens: one, great, do -/
namespace Ss
open PySem PySem.Spec PyProof.Rows L2
open Ss in
local macro_rules | `(tactic| walk_at "fg") => `(tactic| first | with_reducible exact fsScreen_g0 | with_reducible exact fsScreen_g1 | with_reducible exact fsScreen_g2 | with_reducible exact fsScreen_g3 | with_reducible exact fsScreen_g4 | with_reducible exact fsScreen_g5 | with_reducible exact fsScreen_g6 | with_reducible exact fsScreen_g7 | with_reducible exact fsScreen_g8 | with_reducible exact fsScreen_g9 | with_reducible exact fsScreen_g10 | with_reducible exact fsScreen_g11 | with_reducible exact fsScreen_g12 | with_reducible exact fsScreen_g13 | with_reducible exact fsRow_g0 | with_reducible exact fsRow_g1 | with_reducible exact fsReader_g0 | with_reducible exact fsReader_g1)
open Ss in
local macro_rules | `(tactic| walk_at "r") => `(tactic| repeat (first
  | with_reducible refine x_seq ?_ | with_reducible refine x_asg ?_ | with_reducible refine x_var rfl ?_ | with_reducible refine x_c ?_ | with_reducible refine x_op ?_ | with_reducible refine x_name ?_ | with_reducible refine x_gcons ?_ | with_reducible refine x_gnil ?_
  | with_reducible refine x_cons ?_ | with_reducible refine x_nil ?_ | with_reducible refine x_cb ?_ | with_reducible refine x_ifs ?_ | with_reducible refine x_test ?_ | with_reducible refine x_bl ?_
  | with_reducible refine g_addNN ?_ | with_reducible refine g_addNL ?_ | with_reducible refine g_addLN ?_ | with_reducible refine l_addI ?_ | with_reducible refine l_subI ?_ | with_reducible refine g_ltNL ?_ | with_reducible refine l_ltI ?_ | with_reducible refine l_leI ?_ | with_reducible refine l_gtI ?_ | with_reducible refine l_geI ?_ | with_reducible refine l_eqX ?_ | with_reducible refine l_neX ?_ | with_reducible refine g_eqNL ?_ | with_reducible refine l_eqII ?_ | with_reducible refine l_neII ?_ | with_reducible refine l_eq rfl ?_ | with_reducible refine l_ne rfl ?_
  | with_reducible refine x_fld ?_ | with_reducible refine x_ret ?_ | with_reducible refine x_drop ?_ | with_reducible refine x_next ?_ | with_reducible refine x_tup ?_ | with_reducible refine x_lst ?_ | with_reducible refine x_f ?_ | with_reducible refine x_o ?_ | with_reducible refine x_n ?_
  | with_reducible refine x_bm ?_ | with_reducible refine x_bm0 ?_ | with_reducible refine x_m1 ?_ | with_reducible refine x_m0 ?_ | with_reducible refine x_isstr ?_ | with_reducible refine x_tystr ?_ | with_reducible refine x_sl ?_ | with_reducible refine x_part ?_ | with_reducible refine x_part' ?_ | with_reducible refine x_nopart ?_
  | with_reducible refine x_sfld ?_ | with_reducible refine x_if ?_ | with_reducible refine x_isty ?_ | with_reducible refine x_chain ?_ | with_reducible refine x_andV ?_ | with_reducible refine x_orV ?_ | with_reducible refine x_notV ?_ | with_reducible refine x_B ?_ | with_reducible refine x_and ?_ | with_reducible refine x_or ?_ | with_reducible refine x_not ?_ | with_reducible refine x_tru ?_ | with_reducible refine x_yes ?_
  | with_reducible refine x_un ?_ | with_reducible refine x_neg ?_ | with_reducible refine x_par ?_ | with_reducible refine x_par' ?_ | with_reducible refine x_retN ?_ | with_reducible refine x_brk ?_ | with_reducible refine x_cont ?_ | with_reducible refine x_rz ?_
  | with_reducible refine l_leS ?_ | with_reducible refine l_ltS ?_ | with_reducible refine l_inX ?_ | with_reducible refine l_niX ?_ | with_reducible refine l_inS ?_ | with_reducible refine l_niS ?_ | with_reducible refine l_count ?_ | with_reducible refine l_ord ?_ | with_reducible refine l_max ?_ | with_reducible refine l_min ?_ | with_reducible refine l_intI ?_ | with_reducible refine l_intB ?_ | with_reducible refine l_is ?_ | with_reducible refine l_isn ?_
  | with_reducible refine g_modNL (by decide) ?_ | with_reducible refine g_divNL (by decide) (by decide) ?_ | with_reducible refine l_modI (by decide) ?_ | with_reducible refine x_for ?_ | with_reducible refine x_lc ?_ | with_reducible refine x_ilist ?_ | with_reducible refine x_itup ?_ | with_reducible refine x_istr ?_ | with_reducible refine x_istr' ?_ | with_reducible refine x_irng1 ?_ | with_reducible refine x_irng2 ?_
  | (with_reducible refine x_get (by first | assumption | exact Hold.get0 (by assumption) | exact Hold.get1 (by assumption)) (by assumption) (by assumption) (by walk_at "fg") ?_)
  | (with_reducible refine x_ao (by first | assumption | exact Hold.get0 (by assumption) | exact Hold.get1 (by assumption)) (by kernel_rfl) ?_)
  | with_reducible refine x_ienum ?_ | with_reducible refine x_izip ?_ | with_reducible refine x_chain3 ?_
  | (with_reducible refine x_par2 ?_)
  | (with_reducible refine x_par3 ?_) | (with_reducible refine x_par3' ?_)))
def t_Screen_one (c : Ctx) (E : XK) : TS :=
  (tIfS (tTest (tOp (uIn c.K) (tVar 1) (tTup (tCons (tC (.str ⟨#[67]⟩)) (tCons (tC (.str ⟨#[66]⟩)) (tCons (tC (.str ⟨#[77]⟩)) tNil)))))) (tSeq (tAsg (tTM c.K (u_tix c.K) (tTup (tCons (tC (.str ⟨#[67]⟩)) (tCons (tC (.str ⟨#[66]⟩)) (tCons (tC (.str ⟨#[77]⟩)) tNil)))) (tCons (tVar 1) tNil)) (gName 3))
  (tIfS (tTest (tOp uLe (tVar 2) (tOp (uIx c.K) (tTup (tCons (tC (.int 7)) (tCons (tC (.int 7)) (tCons (tC (.int 3)) tNil)))) (tVar 3)))) (sFld c.K (tVar 0) (tOp (uAdd c.K) (tOp (uAdd c.K) (tSl (uSl c.K) (tFld c.K (tVar 0) "pen") tNoPart (tPart (tVar 3))) (tTup (tCons (tVar 2) tNil))) (tSl (uSl c.K) (tFld c.K (tVar 0) "pen") (tPart (tOp (uAdd c.K) (tVar 3) (tC (.int 1)))) tNoPart)) "pen") tNext)) (tIfS (tTest (tOp (uIn c.K) (tVar 1) (tTup (tCons (tC (.str ⟨#[88]⟩)) (tCons (tC (.str ⟨#[73]⟩)) tNil))))) (tDrop (tO c.cScreen "shift" (sp_Screen_shift c) E0 (tVar 0) (tCons (tVar 1) (tCons (tCB uMin (tCons (tVar 2) (tCons (tOp uSub (tFld c.K (tVar 0) "wide") (tFld c.K (tVar 0) "column")) tNil))) tNil)))) (tIfS (tAnd (tTest (tOp (uIn c.K) (tVar 1) (tTup (tCons (tC (.str ⟨#[68]⟩)) (tCons (tC (.str ⟨#[78]⟩)) tNil))))) (tTest (tChain uLe uLe (tFld c.K (tVar 0) "top") (tFld c.K (tVar 0) "row") (tFld c.K (tVar 0) "bottom")))) (C8.tCut (tIfS (tTest (tOp (uEq c.K) (tVar 1) (tC (.str ⟨#[68]⟩)))) (tDrop (tO c.cScreen "take_rows" (sp_Screen_take_rows c) E0 (tVar 0) (tCons (tVar 2) tNil))) (tDrop (tO c.cScreen "roll_down" (sp_Screen_roll_down c) E0 (tVar 0) (tCons (tFld c.K (tVar 0) "row") (tCons (tVar 2) tNil))))) (tDrop (tO c.cScreen "stand" (sp_Screen_stand c) E0 (tVar 0) (tCons (tFld c.K (tVar 0) "row") (tCons (tC (.int 0)) tNil))))) (tIfS (tAnd (tTest (tOp (uEq c.K) (tVar 1) (tC (.str ⟨#[74]⟩)))) (tTest (tOp uIsNot (tFld c.K (tVar 0) "last") (tC .non)))) (tFor (iRng1 (tCons (tCB uMin (tCons (tVar 2) (tCons (tOp (uMul c.K) (tFld c.K (tVar 0) "wide") (tFld c.K (tVar 0) "high")) tNil))) tNil)) (gName 3) (tDrop (tO c.cScreen "put" (sp_Screen_put c) E0 (tVar 0) (tCons (tFld c.K (tVar 0) "last") tNil)))) tNext))))
abbrev N_Screen_one : List Str := ["self", "word", "number", "at"]

section
variable {c : Ctx}
theorem if_and {σ : L2.St} {H1 : Hp} {QB : Bool → Hp → Prop} {tB' : TT} {a b : Bool} (hb : ∀ R : Bool → Hp → Prop, R b H1 → tB' σ H1 R) (q : QB (a && b) H1) : if a = true then tB' σ H1 QB else QB false H1 := by
  cases a
  · exact wF rfl q
  · exact wT rfl (hb _ q)
def penSet (p : Pen) : Nat → Nat → Pen
  | 0, n => (n, p.2)
  | 1, n => (p.1, n, p.2.2)
  | _, n => (p.1, p.2.1, n)
theorem pen_view {K : PySem.W.Frag} {F : Hp} {v : V} {p : Pen} (h : Dp K F v (penData p)) : ∃ q, v = .ref q ∧ SqT K F q [.int (p.1 : Nat), .int (p.2.1 : Nat), .int (p.2.2 : Nat)] := by
  cases h with
  | tup hs ha =>
    cases ha with
    | cons h1 h2 =>
      cases h1
      cases h2 with
      | cons h3 h4 =>
        cases h3
        cases h4 with
        | cons h5 h6 => cases h5; cases h6; exact ⟨_, rfl, hs⟩
theorem pen_mk {K : PySem.W.Frag} {F : Hp} {q : Addr} {p : Pen} (h : SqT K F q [.int (p.1 : Nat), .int (p.2.1 : Nat), .int (p.2.2 : Nat)]) : Dp K F (.ref q) (penData p) := .tup h (.cons (.int _) (.cons (.int _) (.cons (.int _) .nil)))
theorem n_slT' {K : PySem.W.Frag} {F H : Hp} {L : List (Addr × HO)} {Q : VK} {x : V} {p : Addr} {xs : List V} {lo hi : Option Int} (ex : x = .ref p) (W : Hold F L H) (hp : SqT K F p xs) (k : ∀ (r : Addr) (F' H' : Hp), Same F F' → SqT K F' r (cutV xs lo hi) → Hold F' L H' → Q (.ref r) H') : uSl K x lo hi H Q := by
  subst ex; exact n_slT W hp k
theorem put_last (S : Scr) (l : Nat) : (S.put l).last = some l := by
  unfold Scr.put Scr.type1 Scr.next
  split <;> rfl
theorem putMany_succ (l : Nat) : ∀ (k : Nat) (S : Scr), Scr.putMany l (k + 1) S = (Scr.putMany l k S).put l
  | 0, S => rfl
  | k + 1, S => by
    show Scr.putMany l (k + 1) (S.put l) = _
    rw [putMany_succ l k (S.put l)]; rfl
theorem putMany_last {l : Nat} {S : Scr} (h : S.last = some l) : ∀ k, (Scr.putMany l k S).last = some l
  | 0 => h
  | k + 1 => by rw [putMany_succ]; exact put_last _ _
theorem rd_Screen_one (R : FScreen c) : RD N_Screen_one (t_Screen_one c) (sp_Screen_one c) := by
  have cl := R.cl
  have n1 := R.n_bottom
  have n2 := R.n_row
  have n3 := R.n_top
  have n4 := R.n_high
  have n6 := R.n_pen
  have n7 := R.n_column
  have n8 := R.n_wide
  have n9 := R.n_last
  rintro vs H Q E ⟨s, C, S, w, n, F, L, rfl, A, W, kk⟩
  have wf := A.wf
  unfold t_Screen_one
  walk_at "r"
  refine n_tupF W (sz rfl) fun p1 F1 H1 s1 h1 W1 => ?_
  refine l_inC [67, 66, 77] (st_of (W1.old _ _ h1)) ?_
  walk_at "r"
  have A1 := A.gr (Gr.of s1)
  refine wD (fun h => ?_) (fun h => ?_)
  · have h' : w = 67 ∨ w = 66 ∨ w = 77 := by simpa using h
    obtain ⟨j, hj, hjw, ek⟩ : ∃ j, j ≤ 2 ∧ (∀ (p : Addr) H' (Q' : VK), SqT c.K H' p [.str (T [67]), .str (T [66]), .str (T [77])] → Q' (.int ((j : Nat) : Int)) H' → u_tix c.K (.ref p) [.str (T [w])] H' Q') ∧ S.one w n = if n ≤ [7, 7, 3].getD j 0 then { S with pen := penSet S.pen j n } else S := by
      rcases h' with rfl | rfl | rfl
      · exact ⟨0, by decide, fun p H' Q' hq q => ⟨p, [T [67], T [66], T [77]], T [67], 0, rfl, rfl, hq, rfl, fun m hm => absurd hm (Nat.not_lt_zero _), q⟩, rfl⟩
      · exact ⟨1, by decide, fun p H' Q' hq q => ⟨p, [T [67], T [66], T [77]], T [66], 1, rfl, rfl, hq, rfl, fun m hm => by
          have : m = 0 := by omega
          subst this; decide, q⟩, rfl⟩
      · exact ⟨2, by decide, fun p H' Q' hq q => ⟨p, [T [67], T [66], T [77]], T [77], 2, rfl, rfl, hq, rfl, fun m hm => by
          rcases (show m = 0 ∨ m = 1 by omega) with rfl | rfl <;> decide, q⟩, rfl⟩
    rw [ek] at kk
    refine x_seq (x_asg (x_tm ?_))
    walk_at "r"
    refine n_tupF W1 (sz rfl) fun p2 F2 H2 s2 h2 W2 => ?_
    refine ⟨⟨_, _, rfl, st_of (W2.old _ _ h2)⟩, ?_⟩
    walk_at "r"
    refine hjw p2 H2 _ (st_of (W2.old _ _ h2)) ?_
    walk_at "r"
    refine n_tupF W2 (sz rfl) fun p3 F3 H3 s3 h3 W3 => ?_
    walk_at "r"
    have s03 : Same F F3 := (s1.trans s2).trans s3
    have A3 := A.gr (Gr.of s03)
    have hat : atI [V.int 7, V.int 7, V.int 3] ((j : Nat) : Int) = some (.int (([7, 7, 3].getD j 0 : Nat) : Int)) := by
      rcases (show j = 0 ∨ j = 1 ∨ j = 2 by omega) with rfl | rfl | rfl <;> rfl
    refine l_ixT (st_of (W3.old _ _ h3)) hat ?_
    walk_at "r"
    refine wD (fun hle => ?_) (fun hle => ?_)
    · rw [if_pos (by omega)] at kk
      walk_at "r"
      obtain ⟨q, eq, hq⟩ := pen_view A3.pen
      refine n_slT' eq W3 hq fun r1 F4 H4 s4 h4 W4 => ?_
      walk_at "r"
      refine n_tupF W4 (sz rfl) fun r2 F5 H5 s5 h5 W5 => ?_
      refine n_addT W5 ((Gr.of s5).sqT h4) (st_of h5) ?_ fun r3 F6 H6 s6 h6 W6 => ?_
      · rcases (show j = 0 ∨ j = 1 ∨ j = 2 by omega) with rfl | rfl | rfl <;> exact sz rfl
      walk_at "r"
      have s36 : Same F3 F6 := (s4.trans s5).trans s6
      refine n_slT' eq W6 ((Gr.of s36).sqT hq) fun r4 F7 H7 s7 h7 W7 => ?_
      refine n_addT W7 ((Gr.of s7).sqT h6) h7 ?_ fun r5 F8 H8 s8 h8 W8 => ?_
      · rcases (show j = 0 ∨ j = 1 ∨ j = 2 by omega) with rfl | rfl | rfl <;> exact sz rfl
      walk_at "r"
      refine x_put0 W8 cl n6 fsScreen_len fsScreen_p9 fun H9 W9 => ?_
      walk_at "r"
      have s08 : Same F F8 := ((s03.trans s36).trans s7).trans s8
      have A8 := A.gr (Gr.of s08)
      have hp : Dp c.K F8 (.ref r5) (penData (penSet S.pen j n)) := by
        refine pen_mk ?_
        rcases (show j = 0 ∨ j = 1 ∨ j = 2 by omega) with rfl | rfl | rfl <;> exact h8
      exact kk { C with penv := .ref r5 } F8 H9 s08 ⟨⟨wf.w1, wf.w2, wf.h1, wf.h2, wf.m, wf.rl, wf.rw, wf.pl, wf.pw, wf.row, wf.column, wf.tb, wf.bh, wf.rd⟩, A8.rows, A8.past, A8.vals, A8.pr, A8.pp, A8.pin, hp, A8.pb⟩ W9
    · rw [if_neg (by omega)] at kk
      walk_at "r"
      exact kk C F3 H3 s03 A3 W3
  have h' : ¬ w = 67 ∧ ¬ w = 66 ∧ ¬ w = 77 := by simpa using h
  obtain ⟨m1, m2, m3⟩ := h'
  walk_at "r"
  refine n_tupF W1 (sz rfl) fun p2 F2 H2 s2 h2 W2 => ?_
  refine l_inC [88, 73] (st_of (W2.old _ _ h2)) ?_
  walk_at "r"
  have s02 : Same F F2 := s1.trans s2
  have A2 := A.gr (Gr.of s02)
  refine wD (fun h => ?_) (fun h => ?_)
  · have h' : w = 88 ∨ w = 73 := by simpa using h
    have e : S.one w n = S.shift w (min n (S.wide - S.column)) := by rcases h' with rfl | rfl <;> rfl
    rw [e] at kk
    walk_at "r"
    have hc := wf.column
    have e2 : min ((n : Nat) : Int) ((S.wide : Int) - (S.column : Int)) = ((min n (S.wide - S.column) : Nat) : Int) := by omega
    rw [e2]
    refine ⟨s, C, S, w, _, F2, L, rfl, Nat.min_le_right _ _, A2, W2, fun C3 F3 H3 s3 A3 W3 => ?_⟩
    walk_at "r"
    exact kk C3 F3 H3 (s02.trans s3) A3 W3
  have h' : ¬ (w = 88 ∨ w = 73) := by simpa using h
  have e0 : S.one w n = (if (w = 68 ∨ w = 78) ∧ S.top ≤ S.row ∧ S.row ≤ S.bottom then (let S1 := if w = 68 then S.takeRows n else S.rollDown S.row n; S1.stand S1.row 0)
      else if w = 74 then (match S.last with | some l => Scr.putMany l (min n (S.wide * S.high)) S | none => S) else S) := by
    unfold Scr.one
    rw [if_neg m1, if_neg m2, if_neg m3, if_neg h']
    all_goals rfl
  rw [e0] at kk
  walk_at "r"
  refine n_tupF W2 (sz rfl) fun p3 F3 H3 s3 h3 W3 => ?_
  refine l_inC [68, 78] (st_of (W3.old _ _ h3)) ?_
  walk_at "r"
  have s03 : Same F F3 := s02.trans s3
  have A3 := A.gr (Gr.of s03)
  refine if_and (b := decide (S.top ≤ S.row ∧ S.row ≤ S.bottom)) (fun Rb hR => ?_) ?_
  · walk_at "r"
    refine wD (fun h1 => ?_) (fun h1 => ?_)
    · walk_at "r"
      have e : decide ((S.row : Int) ≤ (S.bottom : Int)) = decide (S.top ≤ S.row ∧ S.row ≤ S.bottom) := by rw [Bool.eq_iff_iff, decide_eq_true_eq, decide_eq_true_eq]; omega
      rw [e]; exact hR
    · have e : decide (S.top ≤ S.row ∧ S.row ≤ S.bottom) = false := decide_eq_false (by omega)
      rw [e] at hR
      walk_at "r"
      exact hR
  rw [← Bool.decide_and]
  refine wD (fun h => ?_) (fun h => ?_)
  · have hw : w = 68 ∨ w = 78 := by simpa using h.1
    rw [if_pos ⟨hw, h.2⟩] at kk
    refine x_cut (fun σ' H' => ∃ C4 F4, σ' = [some (.ref s), some (.str (T [w])), some (.int (n : Nat)), none] ∧ Same F F4 ∧ ScrAt c F4 C4 (if w = 68 then S.takeRows n else S.rollDown S.row n) ∧ Hold F4 (scrL c s C4 (if w = 68 then S.takeRows n else S.rollDown S.row n) L) H') ?_ ?_
    · walk_at "r"
      refine wD (fun h4 => ?_) (fun h4 => ?_)
      · rw [if_pos (one1.mp h4)]
        walk_at "r"
        refine ⟨s, C, S, n, F3, L, rfl, h.2.2, A3, W3, fun C3 F4 H4 s4 A4 W4 => ?_⟩
        walk_at "r"
        exact ⟨C3, F4, rfl, s03.trans s4, A4, W4⟩
      · rw [if_neg (fun z => h4 (one1.mpr z))]
        walk_at "r"
        refine ⟨s, C, S, S.row, n, F3, L, rfl, h.2.2, A3, W3, fun C3 F4 H4 s4 A4 W4 => ?_⟩
        walk_at "r"
        exact ⟨C3, F4, rfl, s03.trans s4, A4, W4⟩
    · rintro σ' H4 ⟨C4, F4, rfl, s4, A4, W4⟩
      dsimp only at kk
      generalize (if w = 68 then S.takeRows n else S.rollDown S.row n) = S4 at A4 W4 kk
      walk_at "r"
      refine ⟨s, C4, S4, _, _, F4, L, rfl, A4, W4.st, fun C2 F8 H8 s8 A8 W9 => ?_⟩
      walk_at "r"
      exact kk C2 F8 H8 (s4.trans s8) A8 W9
  · have hw : ¬ ((w = 68 ∨ w = 78) ∧ S.top ≤ S.row ∧ S.row ≤ S.bottom) := fun z => h ⟨by simpa using z.1, z.2⟩
    rw [if_neg hw] at kk
    walk_at "r"
    refine if_and (b := S.last.isSome) (fun Rb hR => ?_) ?_
    · walk_at "r"
      have e : (!decide (lastV S.last = V.non)) = S.last.isSome := by cases S.last <;> rfl
      rw [e]; exact hR
    cases hl : S.last with
    | none =>
      rw [hl] at kk
      refine wF (by simp) ?_
      walk_at "r"
      refine kk C F3 H3 s03 ?_ ?_
      · split <;> exact A3
      · split <;> exact W3
    | some l =>
      rw [hl] at kk
      refine w2 (fun h5 => ?_) (fun h5 => ?_)
      · have hw : w = 74 := by simpa using h5
        rw [if_pos hw] at kk
        walk_at "r"
        refine g_mulNN (Nat.lt_of_le_of_lt wf.w2 (by decide)) (Nat.lt_of_le_of_lt wf.h2 (by decide)) ?_
        walk_at "r"
        have hwh : S.wide * S.high ≤ 60 * 40 := Nat.mul_le_mul wf.w2 wf.h2
        have e2 : min ((n : Nat) : Int) ((S.wide * S.high : Nat) : Int) = ((min n (S.wide * S.high) : Nat) : Int) := by omega
        rw [e2]
        have hle : min n (S.wide * S.high) ≤ 2400 := Nat.le_trans (Nat.min_le_right _ _) hwh
        generalize min n (S.wide * S.high) = m at hle kk
        refine x_irng1' (by omega) (by omega) ?_
        rw [Int.toNat_natCast]
        refine x_forOk (F := F3) ItOk.rng (fun i σ H' => ∃ s4 C4 F4, σ = [some (.ref s), some (.str (T [w])), some (.int (n : Nat)), s4] ∧ Same F3 F4 ∧ ScrAt c F4 C4 (Scr.putMany l i S) ∧ Hold F4 (scrL c s C4 (Scr.putMany l i S) L) H')
          (fun i σ H' _ ⟨_, _, F4, _, s4, _, W'⟩ => (Gr.of s4).trans W'.gr) ⟨none, C, F3, rfl, Same.refl F3, A3, W3⟩ ?_ ?_
        · rintro i σ H' hi ⟨s4, C4, F4, rfl, s5, A4, W4⟩
          have hlast := putMany_last hl i
          rw [putMany_succ]
          generalize Scr.putMany l i S = S4 at A4 W4 hlast
          walk_at "r"
          refine ⟨s, C4, S4, l, F4, L, by rw [hlast]; rfl, A4, W4, fun C5 F5 H5 s6 A5 W5 => ?_⟩
          walk_at "r"
          exact ⟨_, C5, F5, rfl, s5.trans s6, A5, W5⟩
        · rintro σ H' ⟨s4, C4, F4, rfl, s5, A4, W4⟩
          walk_at "r"
          exact kk C4 F4 H' (s03.trans s5) A4 W4
      · have hw : ¬ w = 74 := by simpa using h5
        rw [if_neg hw] at kk
        walk_at "r"
        exact kk C F3 H3 s03 A3 W3
end
end Ss
/-! ## Screens: great, do -/
namespace Ss
open PySem PySem.Spec PyProof.Rows L2
open Ss in
local macro_rules | `(tactic| walk_at "fg") => `(tactic| first | with_reducible exact fsScreen_g0 | with_reducible exact fsScreen_g1 | with_reducible exact fsScreen_g2 | with_reducible exact fsScreen_g3 | with_reducible exact fsScreen_g4 | with_reducible exact fsScreen_g5 | with_reducible exact fsScreen_g6 | with_reducible exact fsScreen_g7 | with_reducible exact fsScreen_g8 | with_reducible exact fsScreen_g9 | with_reducible exact fsScreen_g10 | with_reducible exact fsScreen_g11 | with_reducible exact fsScreen_g12 | with_reducible exact fsScreen_g13 | with_reducible exact fsRow_g0 | with_reducible exact fsRow_g1 | with_reducible exact fsReader_g0 | with_reducible exact fsReader_g1)
open Ss in
local macro_rules | `(tactic| walk_at "r") => `(tactic| repeat (first
  | with_reducible refine x_seq ?_ | with_reducible refine x_asg ?_ | with_reducible refine x_var rfl ?_ | with_reducible refine x_c ?_ | with_reducible refine x_op ?_ | with_reducible refine x_name ?_ | with_reducible refine x_gcons ?_ | with_reducible refine x_gnil ?_
  | with_reducible refine x_cons ?_ | with_reducible refine x_nil ?_ | with_reducible refine x_cb ?_ | with_reducible refine x_ifs ?_ | with_reducible refine x_test ?_ | with_reducible refine x_bl ?_
  | with_reducible refine g_addNN ?_ | with_reducible refine g_addNL ?_ | with_reducible refine g_addLN ?_ | with_reducible refine l_addI ?_ | with_reducible refine l_subI ?_ | with_reducible refine g_ltNL ?_ | with_reducible refine l_ltI ?_ | with_reducible refine l_leI ?_ | with_reducible refine l_gtI ?_ | with_reducible refine l_geI ?_ | with_reducible refine l_eqX ?_ | with_reducible refine l_neX ?_ | with_reducible refine g_eqNL ?_ | with_reducible refine l_eqII ?_ | with_reducible refine l_neII ?_ | with_reducible refine l_eq rfl ?_ | with_reducible refine l_ne rfl ?_
  | with_reducible refine x_fld ?_ | with_reducible refine x_ret ?_ | with_reducible refine x_drop ?_ | with_reducible refine x_next ?_ | with_reducible refine x_tup ?_ | with_reducible refine x_lst ?_ | with_reducible refine x_f ?_ | with_reducible refine x_o ?_ | with_reducible refine x_n ?_
  | with_reducible refine x_bm ?_ | with_reducible refine x_bm0 ?_ | with_reducible refine x_m1 ?_ | with_reducible refine x_m0 ?_ | with_reducible refine x_isstr ?_ | with_reducible refine x_tystr ?_ | with_reducible refine x_sl ?_ | with_reducible refine x_part ?_ | with_reducible refine x_part' ?_ | with_reducible refine x_nopart ?_
  | with_reducible refine x_sfld ?_ | with_reducible refine x_if ?_ | with_reducible refine x_isty ?_ | with_reducible refine x_chain ?_ | with_reducible refine x_andV ?_ | with_reducible refine x_orV ?_ | with_reducible refine x_notV ?_ | with_reducible refine x_B ?_ | with_reducible refine x_and ?_ | with_reducible refine x_or ?_ | with_reducible refine x_not ?_ | with_reducible refine x_tru ?_ | with_reducible refine x_yes ?_
  | with_reducible refine x_un ?_ | with_reducible refine x_neg ?_ | with_reducible refine x_par ?_ | with_reducible refine x_par' ?_ | with_reducible refine x_retN ?_ | with_reducible refine x_brk ?_ | with_reducible refine x_cont ?_ | with_reducible refine x_rz ?_
  | with_reducible refine l_leS ?_ | with_reducible refine l_ltS ?_ | with_reducible refine l_inX ?_ | with_reducible refine l_niX ?_ | with_reducible refine l_inS ?_ | with_reducible refine l_niS ?_ | with_reducible refine l_count ?_ | with_reducible refine l_ord ?_ | with_reducible refine l_max ?_ | with_reducible refine l_min ?_ | with_reducible refine l_intI ?_ | with_reducible refine l_intB ?_ | with_reducible refine l_is ?_ | with_reducible refine l_isn ?_
  | with_reducible refine g_modNL (by decide) ?_ | with_reducible refine g_divNL (by decide) (by decide) ?_ | with_reducible refine l_modI (by decide) ?_ | with_reducible refine x_for ?_ | with_reducible refine x_lc ?_ | with_reducible refine x_ilist ?_ | with_reducible refine x_itup ?_ | with_reducible refine x_istr ?_ | with_reducible refine x_istr' ?_ | with_reducible refine x_irng1 ?_ | with_reducible refine x_irng2 ?_
  | (with_reducible refine x_get (by first | assumption | exact Hold.get0 (by assumption) | exact Hold.get1 (by assumption)) (by assumption) (by assumption) (by walk_at "fg") ?_)
  | (with_reducible refine x_ao (by first | assumption | exact Hold.get0 (by assumption) | exact Hold.get1 (by assumption)) (by kernel_rfl) ?_)
  | with_reducible refine x_ienum ?_ | with_reducible refine x_izip ?_ | with_reducible refine x_chain3 ?_
  | (with_reducible refine x_par2 ?_)
  | (with_reducible refine x_par3 ?_) | (with_reducible refine x_par3' ?_)))
def t_Screen_great (c : Ctx) (E : XK) : TS :=
  (tIfS (tAnd (tTest (tOp (uEq c.K) (tVar 1) (tC (.str ⟨#[71]⟩)))) (tTest (tOp (uEq c.K) (tCB (uLen c.K) (tCons (tVar 2) tNil)) (tC (.int 2))))) (tDrop (tO c.cScreen "stand" (sp_Screen_stand c) E0 (tVar 0) (tCons (tOp (uIx c.K) (tVar 2) (tC (.int 0))) (tCons (tOp (uIx c.K) (tVar 2) (tC (.int 1))) tNil)))) (tIfS (tAnd (tTest (tOp (uEq c.K) (tVar 1) (tC (.str ⟨#[82]⟩)))) (tTest (tOp (uEq c.K) (tCB (uLen c.K) (tCons (tVar 2) tNil)) (tC (.int 2))))) (tIfS (tTest (tChain uLt uLt (tOp (uIx c.K) (tVar 2) (tC (.int 0))) (tOp (uIx c.K) (tVar 2) (tC (.int 1))) (tFld c.K (tVar 0) "high"))) (tSeq (tAsg (tVar 2) (gTup c.K 2 (gCons (gAttr c.K (tVar 0) "top") (gCons (gAttr c.K (tVar 0) "bottom") gNil))))
  (tDrop (tO c.cScreen "stand" (sp_Screen_stand c) E0 (tVar 0) (tCons (tC (.int 0)) (tCons (tC (.int 0)) tNil))))) tNext) (tIfS (tTest (tOp (uEq c.K) (tCB (uLen c.K) (tCons (tVar 2) tNil)) (tC (.int 1)))) (tDrop (tO c.cScreen "one" (sp_Screen_one c) E0 (tVar 0) (tCons (tVar 1) (tCons (tOp (uIx c.K) (tVar 2) (tC (.int 0))) tNil)))) tNext)))
abbrev N_Screen_great : List Str := ["self", "word", "numbers"]

def t_Screen_do (c : Ctx) (E : XK) : TS :=
  (tIfS (tTest (tOp (uEq c.K) (tOp (uIx c.K) (tVar 1) (tC (.int 0))) (tC (.str ⟨#[115, 105, 103, 110]⟩)))) (tDrop (tO c.cScreen "put" (sp_Screen_put c) E0 (tVar 0) (tCons (tOp (uIx c.K) (tVar 1) (tC (.int 1))) tNil))) (tIfS (tTest (tOp (uEq c.K) (tOp (uIx c.K) (tVar 1) (tC (.int 0))) (tC (.str ⟨#[101, 110, 100]⟩)))) (tSeq (tDrop (tO c.cScreen "down" (sp_Screen_down c) E0 (tVar 0) tNil))
  (tDrop (tO c.cScreen "stand" (sp_Screen_stand c) E0 (tVar 0) (tCons (tFld c.K (tVar 0) "row") (tCons (tC (.int 0)) tNil))))) (tIfS (tTest (tOp (uIn c.K) (tOp (uIx c.K) (tVar 1) (tC (.int 1))) (tC (v_SMALL c)))) (tDrop (tO c.cScreen "small" (sp_Screen_small c) E0 (tVar 0) (tCons (tOp (uIx c.K) (tVar 1) (tC (.int 1))) tNil))) (tDrop (tO c.cScreen "great" (sp_Screen_great c) E0 (tVar 0) (tCons (tOp (uIx c.K) (tVar 1) (tC (.int 1))) (tCons (tOp (uIx c.K) (tVar 1) (tC (.int 2))) tNil)))))))
abbrev N_Screen_do : List Str := ["self", "one"]

section
variable {c : Ctx}
theorem great_no {S : Scr} {w : Nat} {ns : List Nat} (h1 : ¬ ns.length = 1) (h2 : ¬ ns.length = 2) : S.great w ns = S := by
  unfold Scr.great
  match ns, h1, h2 with
  | [], _, _ => rfl
  | [_], h, _ => exact absurd rfl h
  | [_, _], _, h => exact absurd rfl h
  | _ :: _ :: _ :: _, _, _ => rfl
theorem rd_Screen_great (R : FScreen c) : RD N_Screen_great (t_Screen_great c) (sp_Screen_great c) := by
  have cl := R.cl
  have n1 := R.n_bottom
  have n3 := R.n_top
  have n4 := R.n_high
  rintro vs H Q E ⟨s, C, S, w, ns, q, F, L, rfl, hq, A, W, kk⟩
  have wf := A.wf
  have hs := W.gr.sqT hq
  unfold t_Screen_great
  walk_at "r"
  have len2 : ∀ Rb : Bool → Hp → Prop, ∀ k : Nat, Rb (decide (ns.length = k)) H → Rb (decide ((ns.map fun (n : Nat) => V.int n).length = k)) H := fun Rb k h => by rw [List.length_map]; exact h
  refine if_and (b := decide (ns.length = 2)) (fun Rb hR => ?_) ?_
  · walk_at "r"
    refine l_lenT hs ?_
    walk_at "r"
    exact len2 Rb 2 hR
  rw [← Bool.decide_and]
  refine wD (fun h => ?_) (fun h => ?_)
  · obtain ⟨h1, h2⟩ := h
    have hw : w = 71 := one1.mp h1
    subst hw
    match ns, h2 with
    | [a, b], _ =>
      walk_at "r"
      refine l_ixT hs rfl ?_
      walk_at "r"
      refine l_ixT hs rfl ?_
      walk_at "r"
      refine ⟨s, C, S, _, _, F, L, rfl, A, W.st, fun C2 F2 H2 s2 A2 W2 => ?_⟩
      walk_at "r"
      exact kk C2 F2 H2 s2 A2 W2
  walk_at "r"
  refine if_and (b := decide (ns.length = 2)) (fun Rb hR => ?_) ?_
  · walk_at "r"
    refine l_lenT hs ?_
    walk_at "r"
    exact len2 Rb 2 hR
  rw [← Bool.decide_and]
  refine wD (fun h5 => ?_) (fun h5 => ?_)
  · obtain ⟨h1, h2⟩ := h5
    have hw : w = 82 := one1.mp h1
    subst hw
    match ns, h2 with
    | [a, b], _ =>
      have e : S.great 82 [a, b] = if a < b ∧ b < S.high then ({ S with top := a, bottom := b } : Scr).stand 0 0 else S := rfl
      rw [e] at kk
      walk_at "r"
      refine l_ixT hs rfl ?_
      walk_at "r"
      refine l_ixT hs rfl ?_
      walk_at "r"
      refine wD (fun h6 => ?_) (fun h6 => ?_)
      · walk_at "r"
        refine wD (fun h7 => ?_) (fun h7 => ?_)
        · have hab : a < b := Int.ofNat_lt.mp h6
          have hbh : b < S.high := Int.ofNat_lt.mp h7
          rw [if_pos ⟨hab, hbh⟩] at kk
          walk_at "r"
          refine x_gtup (xs := [V.int ((a : Nat) : Int), V.int ((b : Nat) : Int)]) hs rfl ?_
          walk_at "r"
          refine x_gattr ?_
          walk_at "r"
          refine x_put0 W cl n3 fsScreen_len fsScreen_p10 fun H1 W1 => ?_
          walk_at "r"
          refine x_gattr ?_
          walk_at "r"
          refine x_put0 W1 cl n1 fsScreen_len fsScreen_p11 fun H2 W2 => ?_
          walk_at "r"
          have A2 : ScrAt c F C { S with top := a, bottom := b } := ⟨⟨wf.w1, wf.w2, wf.h1, wf.h2, wf.m, wf.rl, wf.rw, wf.pl, wf.pw, wf.row, wf.column, Nat.le_of_lt hab, hbh, wf.rd⟩, A.rows, A.past, A.vals, A.pr, A.pp, A.pin, A.pen, A.pb⟩
          refine ⟨s, C, { S with top := a, bottom := b }, 0, 0, F, L, rfl, A2, W2.st, fun C2 F2 H3 s2 A3 W3 => ?_⟩
          walk_at "r"
          exact kk C2 F2 H3 s2 A3 W3
        · rw [if_neg (fun z => h7 (Int.ofNat_lt.mpr z.2))] at kk
          walk_at "r"
          exact kk C F H (Same.refl F) A W
      · rw [if_neg (fun z => h6 (Int.ofNat_lt.mpr z.1))] at kk
        walk_at "r"
        refine wF rfl ?_
        walk_at "r"
        exact kk C F H (Same.refl F) A W
  walk_at "r"
  refine l_lenT hs ?_
  walk_at "r"
  rw [List.length_map]
  refine wD (fun h7 => ?_) (fun h7 => ?_)
  · match ns, h7 with
    | [a], _ =>
      have e : S.great w [a] = S.one w a := rfl
      rw [e] at kk
      walk_at "r"
      refine l_ixT hs rfl ?_
      walk_at "r"
      refine ⟨s, C, S, w, a, F, L, rfl, A, W, fun C2 F2 H2 s2 A2 W2 => ?_⟩
      walk_at "r"
      exact kk C2 F2 H2 s2 A2 W2
  · have e : S.great w ns = S := by
      by_cases h2 : ns.length = 2
      · match ns, h2 with
        | [a, b], _ =>
          have x1 : ¬ w = 71 := fun z => h ⟨one1.mpr z, rfl⟩
          have x2 : ¬ w = 82 := fun z => h5 ⟨one1.mpr z, rfl⟩
          show (if w = 71 then _ else if w = 82 then _ else S) = S
          rw [if_neg x1, if_neg x2]
      · exact great_no h7 h2
    rw [e] at kk
    walk_at "r"
    exact kk C F H (Same.refl F) A W
theorem rd_Screen_do (R : FScreen c) : RD N_Screen_do (t_Screen_do c) (sp_Screen_do c) := by
  rintro vs H Q E ⟨s, C, S, t, b, F, L, rfl, hd, A, W, kk⟩
  obtain ⟨b', hb, hv⟩ := tk_view hd
  have cl := R.cl
  have n2 := R.n_row
  cases hb
  unfold t_Screen_do
  walk_at "r"
  cases t with
  | sign n =>
    refine l_ixT (W.gr.sqT hv) rfl ?_
    walk_at "r"
    refine wT (decide_eq_true rfl) ?_
    walk_at "r"
    refine l_ixT (W.gr.sqT hv) rfl ?_
    walk_at "r"
    refine ⟨s, C, S, n, F, L, rfl, A, W, fun C2 F2 H2 s2 A2 W2 => ?_⟩
    walk_at "r"
    exact kk C2 F2 H2 s2 A2 W2
  | fin =>
    refine l_ixT (W.gr.sqT hv) rfl ?_
    walk_at "r"
    refine wF (decide_eq_false (by decide)) ?_
    walk_at "r"
    refine l_ixT (W.gr.sqT hv) rfl ?_
    walk_at "r"
    refine wT (decide_eq_true rfl) ?_
    walk_at "r"
    refine ⟨s, C, S, F, L, rfl, A, W, fun C2 F2 H2 s2 A2 W2 => ?_⟩
    walk_at "r"
    refine ⟨s, C2, S.down, _, 0, F2, L, rfl, A2, W2.st, fun C3 F3 H3 s3 A3 W3 => ?_⟩
    walk_at "r"
    exact kk C3 F3 H3 (s2.trans s3) A3 W3
  | act w ns =>
    obtain ⟨q, h1, h2⟩ := hv
    refine l_ixT (W.gr.sqT h1) rfl ?_
    walk_at "r"
    refine wF (decide_eq_false (by decide)) ?_
    walk_at "r"
    refine l_ixT (W.gr.sqT h1) rfl ?_
    walk_at "r"
    refine wF (decide_eq_false (by decide)) ?_
    walk_at "r"
    refine l_ixT (W.gr.sqT h1) rfl ?_
    walk_at "r"
    rw [isSmall_mem']
    refine w2 (fun hsm => ?_) (fun hsm => ?_)
    · have e : S.act (.act w ns) = S.small w := by show (if isSmall w then S.small w else S.great w ns) = _; rw [if_pos hsm]
      rw [e] at kk
      walk_at "r"
      refine l_ixT (W.gr.sqT h1) rfl ?_
      walk_at "r"
      refine ⟨s, C, S, w, F, L, rfl, A, W, fun C2 F2 H2 s2 A2 W2 => ?_⟩
      walk_at "r"
      exact kk C2 F2 H2 s2 A2 W2
    · have e : S.act (.act w ns) = S.great w ns := by show (if isSmall w then S.small w else S.great w ns) = _; rw [if_neg (by rw [hsm]; decide)]
      rw [e] at kk
      walk_at "r"
      refine l_ixT (W.gr.sqT h1) rfl ?_
      walk_at "r"
      refine l_ixT (W.gr.sqT h1) rfl ?_
      walk_at "r"
      refine ⟨s, C, S, w, ns, q, F, L, rfl, h2, A, W, fun C2 F2 H2 s2 A2 W2 => ?_⟩
      walk_at "r"
      exact kk C2 F2 H2 s2 A2 W2
end
end Ss
/-! ## Screens: feed -/
namespace Ss
open PySem PySem.Spec PyProof.Rows L2
open Ss in
local macro_rules | `(tactic| walk_at "fg") => `(tactic| first | with_reducible exact fsScreen_g0 | with_reducible exact fsScreen_g1 | with_reducible exact fsScreen_g2 | with_reducible exact fsScreen_g3 | with_reducible exact fsScreen_g4 | with_reducible exact fsScreen_g5 | with_reducible exact fsScreen_g6 | with_reducible exact fsScreen_g7 | with_reducible exact fsScreen_g8 | with_reducible exact fsScreen_g9 | with_reducible exact fsScreen_g10 | with_reducible exact fsScreen_g11 | with_reducible exact fsScreen_g12 | with_reducible exact fsScreen_g13 | with_reducible exact fsRow_g0 | with_reducible exact fsRow_g1 | with_reducible exact fsReader_g0 | with_reducible exact fsReader_g1)
open Ss in
local macro_rules | `(tactic| walk_at "r") => `(tactic| repeat (first
  | with_reducible refine x_seq ?_ | with_reducible refine x_asg ?_ | with_reducible refine x_var rfl ?_ | with_reducible refine x_c ?_ | with_reducible refine x_op ?_ | with_reducible refine x_name ?_ | with_reducible refine x_gcons ?_ | with_reducible refine x_gnil ?_
  | with_reducible refine x_cons ?_ | with_reducible refine x_nil ?_ | with_reducible refine x_cb ?_ | with_reducible refine x_ifs ?_ | with_reducible refine x_test ?_ | with_reducible refine x_bl ?_
  | with_reducible refine g_addNN ?_ | with_reducible refine g_addNL ?_ | with_reducible refine g_addLN ?_ | with_reducible refine l_addI ?_ | with_reducible refine l_subI ?_ | with_reducible refine g_ltNL ?_ | with_reducible refine l_ltI ?_ | with_reducible refine l_leI ?_ | with_reducible refine l_gtI ?_ | with_reducible refine l_geI ?_ | with_reducible refine l_eqX ?_ | with_reducible refine l_neX ?_ | with_reducible refine g_eqNL ?_ | with_reducible refine l_eqII ?_ | with_reducible refine l_neII ?_ | with_reducible refine l_eq rfl ?_ | with_reducible refine l_ne rfl ?_
  | with_reducible refine x_fld ?_ | with_reducible refine x_ret ?_ | with_reducible refine x_drop ?_ | with_reducible refine x_next ?_ | with_reducible refine x_tup ?_ | with_reducible refine x_lst ?_ | with_reducible refine x_f ?_ | with_reducible refine x_o ?_ | with_reducible refine x_n ?_
  | with_reducible refine x_bm ?_ | with_reducible refine x_bm0 ?_ | with_reducible refine x_m1 ?_ | with_reducible refine x_m0 ?_ | with_reducible refine x_isstr ?_ | with_reducible refine x_tystr ?_ | with_reducible refine x_sl ?_ | with_reducible refine x_part ?_ | with_reducible refine x_part' ?_ | with_reducible refine x_nopart ?_
  | with_reducible refine x_sfld ?_ | with_reducible refine x_if ?_ | with_reducible refine x_isty ?_ | with_reducible refine x_chain ?_ | with_reducible refine x_andV ?_ | with_reducible refine x_orV ?_ | with_reducible refine x_notV ?_ | with_reducible refine x_B ?_ | with_reducible refine x_and ?_ | with_reducible refine x_or ?_ | with_reducible refine x_not ?_ | with_reducible refine x_tru ?_ | with_reducible refine x_yes ?_
  | with_reducible refine x_un ?_ | with_reducible refine x_neg ?_ | with_reducible refine x_par ?_ | with_reducible refine x_par' ?_ | with_reducible refine x_retN ?_ | with_reducible refine x_brk ?_ | with_reducible refine x_cont ?_ | with_reducible refine x_rz ?_
  | with_reducible refine l_leS ?_ | with_reducible refine l_ltS ?_ | with_reducible refine l_inX ?_ | with_reducible refine l_niX ?_ | with_reducible refine l_inS ?_ | with_reducible refine l_niS ?_ | with_reducible refine l_count ?_ | with_reducible refine l_ord ?_ | with_reducible refine l_max ?_ | with_reducible refine l_min ?_ | with_reducible refine l_intI ?_ | with_reducible refine l_intB ?_ | with_reducible refine l_is ?_ | with_reducible refine l_isn ?_
  | with_reducible refine g_modNL (by decide) ?_ | with_reducible refine g_divNL (by decide) (by decide) ?_ | with_reducible refine l_modI (by decide) ?_ | with_reducible refine x_for ?_ | with_reducible refine x_lc ?_ | with_reducible refine x_ilist ?_ | with_reducible refine x_itup ?_ | with_reducible refine x_istr ?_ | with_reducible refine x_istr' ?_ | with_reducible refine x_irng1 ?_ | with_reducible refine x_irng2 ?_
  | (with_reducible refine x_get (by first | assumption | exact Hold.get0 (by assumption) | exact Hold.get1 (by assumption)) (by assumption) (by assumption) (by walk_at "fg") ?_)
  | (with_reducible refine x_ao (by first | assumption | exact Hold.get0 (by assumption) | exact Hold.get1 (by assumption)) (by kernel_rfl) ?_)
  | with_reducible refine x_ienum ?_ | with_reducible refine x_izip ?_ | with_reducible refine x_chain3 ?_
  | (with_reducible refine x_par2 ?_)
  | (with_reducible refine x_par3 ?_) | (with_reducible refine x_par3' ?_)))
def sp_Screen_feed (c : Ctx) : Sp := fun vs H Q E => ∃ (s : Addr) (C : ScrC) (S : Scr) (x : V) (F : Hp) (L : List (Addr × HO)), vs = [.ref s, x] ∧ TextArg c F x ∧ ScrAt c F C S ∧ Hold F (scrL c s C S L) H ∧
  (∀ l, x = .str (T l) → okText x = true → ScrTo c s F L (S.fed l) Q) ∧ (okText x = false → ∀ F' H', Same F F' → Hold F' (scrL c s C S L) H' → E (.ref c.cBadText) none H')
def t_Screen_feed (c : Ctx) (E : XK) : TS :=
  (tFor (iList c.K (tO c.cReader "feed" (sp_Reader_feed c) E (tFld c.K (tVar 0) "reader") (tCons (tVar 1) tNil))) (gName 2) (tDrop (tO c.cScreen "do" (sp_Screen_do c) E0 (tVar 0) (tCons (tVar 2) tNil))))
abbrev N_Screen_feed : List Str := ["self", "text", "one"]

section
variable {c : Ctx}
theorem acts_snoc (S : Scr) (ts : List Tk) (t : Tk) : S.acts (ts ++ [t]) = (S.acts ts).act t := by
  unfold Scr.acts
  rw [List.foldl_append]; rfl
theorem rd_Screen_feed (R : FScreen c) (RD' : FReader c) : RD N_Screen_feed (t_Screen_feed c) (sp_Screen_feed c) := by
  have cl := R.cl
  have n1 := R.n_reader
  rintro vs H Q E ⟨s, C, S, x, F, L, rfl, ta, A, W, k1, k2⟩
  have wf := A.wf
  unfold t_Screen_feed
  walk_at "r"
  have sw : ∀ {F H} {a b : Addr × HO} {M : List (Addr × HO)}, Hold F (a :: b :: M) H → Hold F (b :: a :: M) H := fun W => W.perm (List.Perm.swap _ _ _)
  refine ⟨C.r, C.rdx, S.rd, x, F, (s, scrO c C S) :: (ownR c C.rows ++ L), rfl, ta, sw W, wf.rd, fun l hl hok p xs F1 H1 s1 hxs W1 => ?_, fun hno F1 H1 s1 W1 => k2 hno F1 H1 s1 (sw W1)⟩
  have k1' := k1 l hl hok
  unfold Scr.fed at k1'
  have A0 : ScrAt c F C { S with rd := (S.rd.feed l).1 } := ⟨⟨wf.w1, wf.w2, wf.h1, wf.h2, wf.m, wf.rl, wf.rw, wf.pl, wf.pw, wf.row, wf.column, wf.tb, wf.bh, feed_wf wf.rd⟩, A.rows, A.past, A.vals, A.pr, A.pp, A.pin, A.pen, A.pb⟩
  have W2 := W1.freeze
  have s2 := W1.freezeS
  have hp : (upd F1 p (.lst xs)) p = some (.lst xs) := upd_same
  have hxs2 := (Gr.of s2).dpAll hxs
  generalize upd F1 p (.lst xs) = F2 at W2 s2 hp hxs2
  have s02 : Same F F2 := s1.trans s2
  have W3 : Hold F2 (scrL c s C { S with rd := (S.rd.feed l).1 } L) H1 := sw W2
  generalize ({ S with rd := (S.rd.feed l).1 } : Scr) = S0 at A0 W3 k1'
  have hln := dpAll_len hxs
  rw [List.length_map] at hln
  generalize (S.rd.feed l).2 = ts at hxs hxs2 hln k1'
  refine x_ilist' (sq_of (W3.old _ _ hp)) ?_
  refine x_forOk (F := F2) (ItOk.list (sq_of hp)) (fun i σ H' => ∃ s3 C3 F3, σ = [some (.ref s), some x, s3] ∧ Same F2 F3 ∧ ScrAt c F3 C3 (S0.acts (ts.take i)) ∧ Hold F3 (scrL c s C3 (S0.acts (ts.take i)) L) H')
    (fun i σ H' _ ⟨_, _, F3, _, s3, _, W'⟩ => (Gr.of s3).trans W'.gr) ⟨none, C, F2, rfl, Same.refl F2, A0.gr (Gr.of s02), W3⟩ ?_ ?_
  · rintro i σ H' hi ⟨s3, C3, F3, rfl, s4, A4, W4⟩
    have hi' : i < ts.length := by omega
    have hv := dpAll_get hxs2 i (by simpa using hi')
    rw [getD_map (d := Tk.fin) hi'] at hv
    obtain ⟨b, hb, _⟩ := tk_view hv
    rw [hb] at hv ⊢
    have ea := acts_snoc S0 (ts.take i) (ts.getD i .fin)
    rw [← take_getD hi'] at ea
    rw [ea]
    generalize S0.acts (ts.take i) = S4 at A4 W4
    walk_at "r"
    refine ⟨s, C3, S4, ts.getD i .fin, b, F3, L, rfl, (Gr.of s4).dp hv, A4, W4, fun C5 F5 H5 s6 A5 W5 => ?_⟩
    walk_at "r"
    exact ⟨_, C5, F5, rfl, s4.trans s6, A5, W5⟩
  · rintro σ H' ⟨s3, C3, F3, rfl, s4, A4, W4⟩
    rw [hln, List.take_length] at A4 W4
    walk_at "r"
    exact k1' C3 F3 H' (s02.trans s4) A4 W4
end
end Ss
/-! ## Screens: what they tell -/
namespace Ss
open PySem PySem.Spec PyProof.Rows L2
open Ss in
local macro_rules | `(tactic| walk_at "fg") => `(tactic| first | with_reducible exact fsScreen_g0 | with_reducible exact fsScreen_g1 | with_reducible exact fsScreen_g2 | with_reducible exact fsScreen_g3 | with_reducible exact fsScreen_g4 | with_reducible exact fsScreen_g5 | with_reducible exact fsScreen_g6 | with_reducible exact fsScreen_g7 | with_reducible exact fsScreen_g8 | with_reducible exact fsScreen_g9 | with_reducible exact fsScreen_g10 | with_reducible exact fsScreen_g11 | with_reducible exact fsScreen_g12 | with_reducible exact fsScreen_g13 | with_reducible exact fsRow_g0 | with_reducible exact fsRow_g1 | with_reducible exact fsReader_g0 | with_reducible exact fsReader_g1)
open Ss in
local macro_rules | `(tactic| walk_at "r") => `(tactic| repeat (first
  | with_reducible refine x_seq ?_ | with_reducible refine x_asg ?_ | with_reducible refine x_var rfl ?_ | with_reducible refine x_c ?_ | with_reducible refine x_op ?_ | with_reducible refine x_name ?_ | with_reducible refine x_gcons ?_ | with_reducible refine x_gnil ?_
  | with_reducible refine x_cons ?_ | with_reducible refine x_nil ?_ | with_reducible refine x_cb ?_ | with_reducible refine x_ifs ?_ | with_reducible refine x_test ?_ | with_reducible refine x_bl ?_
  | with_reducible refine g_addNN ?_ | with_reducible refine g_addNL ?_ | with_reducible refine g_addLN ?_ | with_reducible refine l_addI ?_ | with_reducible refine l_subI ?_ | with_reducible refine g_ltNL ?_ | with_reducible refine l_ltI ?_ | with_reducible refine l_leI ?_ | with_reducible refine l_gtI ?_ | with_reducible refine l_geI ?_ | with_reducible refine l_eqX ?_ | with_reducible refine l_neX ?_ | with_reducible refine g_eqNL ?_ | with_reducible refine l_eqII ?_ | with_reducible refine l_neII ?_ | with_reducible refine l_eq rfl ?_ | with_reducible refine l_ne rfl ?_
  | with_reducible refine x_fld ?_ | with_reducible refine x_ret ?_ | with_reducible refine x_drop ?_ | with_reducible refine x_next ?_ | with_reducible refine x_tup ?_ | with_reducible refine x_lst ?_ | with_reducible refine x_f ?_ | with_reducible refine x_o ?_ | with_reducible refine x_n ?_
  | with_reducible refine x_bm ?_ | with_reducible refine x_bm0 ?_ | with_reducible refine x_m1 ?_ | with_reducible refine x_m0 ?_ | with_reducible refine x_isstr ?_ | with_reducible refine x_tystr ?_ | with_reducible refine x_sl ?_ | with_reducible refine x_part ?_ | with_reducible refine x_part' ?_ | with_reducible refine x_nopart ?_
  | with_reducible refine x_sfld ?_ | with_reducible refine x_if ?_ | with_reducible refine x_isty ?_ | with_reducible refine x_chain ?_ | with_reducible refine x_andV ?_ | with_reducible refine x_orV ?_ | with_reducible refine x_notV ?_ | with_reducible refine x_B ?_ | with_reducible refine x_and ?_ | with_reducible refine x_or ?_ | with_reducible refine x_not ?_ | with_reducible refine x_tru ?_ | with_reducible refine x_yes ?_
  | with_reducible refine x_un ?_ | with_reducible refine x_neg ?_ | with_reducible refine x_par ?_ | with_reducible refine x_par' ?_ | with_reducible refine x_retN ?_ | with_reducible refine x_brk ?_ | with_reducible refine x_cont ?_ | with_reducible refine x_rz ?_
  | with_reducible refine l_leS ?_ | with_reducible refine l_ltS ?_ | with_reducible refine l_inX ?_ | with_reducible refine l_niX ?_ | with_reducible refine l_inS ?_ | with_reducible refine l_niS ?_ | with_reducible refine l_count ?_ | with_reducible refine l_ord ?_ | with_reducible refine l_max ?_ | with_reducible refine l_min ?_ | with_reducible refine l_intI ?_ | with_reducible refine l_intB ?_ | with_reducible refine l_is ?_ | with_reducible refine l_isn ?_
  | with_reducible refine g_modNL (by decide) ?_ | with_reducible refine g_divNL (by decide) (by decide) ?_ | with_reducible refine l_modI (by decide) ?_ | with_reducible refine x_for ?_ | with_reducible refine x_lc ?_ | with_reducible refine x_ilist ?_ | with_reducible refine x_itup ?_ | with_reducible refine x_istr ?_ | with_reducible refine x_istr' ?_ | with_reducible refine x_irng1 ?_ | with_reducible refine x_irng2 ?_
  | (with_reducible refine x_get (by first | assumption | exact Hold.get0 (by assumption) | exact Hold.get1 (by assumption)) (by assumption) (by assumption) (by walk_at "fg") ?_)
  | (with_reducible refine x_ao (by first | assumption | exact Hold.get0 (by assumption) | exact Hold.get1 (by assumption)) (by kernel_rfl) ?_)
  | with_reducible refine x_ienum ?_ | with_reducible refine x_izip ?_ | with_reducible refine x_chain3 ?_
  | (with_reducible refine x_par2 ?_)
  | (with_reducible refine x_par3 ?_) | (with_reducible refine x_par3' ?_)))
namespace Scr
def cursorD (S : Scr) : PyData := .tuple [.int (S.row : Nat), .int (S.column : Nat), .bool S.full]
def stateD (S : Scr) : PyData := .tuple [penData S.pen, .tuple [.int (S.top : Nat), .int (S.bottom : Nat)]]
def pageD (S : Scr) : PyData := .list (S.rows.map fun p => .list (p.cells.map Cell.data))
end Scr
abbrev ScrTell (c : Ctx) (s : Addr) (C : ScrC) (S : Scr) (F : Hp) (L : List (Addr × HO)) (d : PyData) (Q : VK) : Prop := ∀ v F' H', Same F F' → Dp c.K F' v d → Hold F' (scrL c s C S L) H' → Q v H'
def sp_Screen_cursor (c : Ctx) : Sp := fun vs H Q _ => ∃ (s : Addr) (C : ScrC) (S : Scr) (F : Hp) (L : List (Addr × HO)), vs = [.ref s] ∧ ScrAt c F C S ∧ Hold F (scrL c s C S L) H ∧ ScrTell c s C S F L S.cursorD Q
def sp_Screen_state (c : Ctx) : Sp := fun vs H Q _ => ∃ (s : Addr) (C : ScrC) (S : Scr) (F : Hp) (L : List (Addr × HO)), vs = [.ref s] ∧ ScrAt c F C S ∧ Hold F (scrL c s C S L) H ∧ ScrTell c s C S F L S.stateD Q
/-- a list is handed back as one's own -/
abbrev ScrOwn (c : Ctx) (s : Addr) (C : ScrC) (S : Scr) (F : Hp) (L : List (Addr × HO)) (P : Hp → List V → Prop) (Q : VK) : Prop := ∀ (D : Addr) ys F' H', Same F F' → P F' ys → Hold F' ((D, .lst ys) :: scrL c s C S L) H' → Q (.ref D) H'
/-- the i-th of ys is a new list of the i-th row's cells -/
def PageAt (c : Ctx) (F F' : Hp) (ys : List V) (rows : List PRow) : Prop := ys.length = rows.length ∧ ∀ i, i < rows.length → ∃ (r : Addr) (vals : List V), ys.getD i .non = .ref r ∧ F r = none ∧ F' r = some (.lst vals) ∧ DpAll c.K F' vals ((rows.getD i ⟨[], false⟩).cells.map Cell.data)
def sp_Screen_page (c : Ctx) : Sp := fun vs H Q _ => ∃ (s : Addr) (C : ScrC) (S : Scr) (F : Hp) (L : List (Addr × HO)), vs = [.ref s] ∧ ScrAt c F C S ∧ Hold F (scrL c s C S L) H ∧ ScrOwn c s C S F L (fun F' ys => PageAt c F F' ys S.rows) Q
theorem PageAt.gr {c : Ctx} {F F1 F2 : Hp} {ys : List V} {rows : List PRow} (g : Gr F1 F2) (h : PageAt c F F1 ys rows) : PageAt c F F2 ys rows :=
  ⟨h.1, fun i hi => let ⟨r, vals, a, b, d, e⟩ := h.2 i hi; ⟨r, vals, a, b, g.lst d, g.dpAll e⟩⟩
theorem PageAt.dpAll {c : Ctx} {F F' : Hp} {ys : List V} {rows : List PRow} (h : PageAt c F F' ys rows) : DpAll c.K F' ys (rows.map fun p => .list (p.cells.map Cell.data)) :=
  dpAll_of (by rw [List.length_map]; exact h.1) fun i hi => by
    have hi' : i < rows.length := by simpa using hi
    obtain ⟨r, vals, a, _, d, e⟩ := h.2 i hi'
    rw [getD_map (d := (⟨[], false⟩ : PRow)) hi', a]
    exact .lst (sq_of d) e
def t_Screen_cursor (c : Ctx) (E : XK) : TS :=
  (tRet (tTup (tCons (tFld c.K (tVar 0) "row") (tCons (tFld c.K (tVar 0) "column") (tCons (tFld c.K (tVar 0) "is_full") tNil)))))
abbrev N_Screen_cursor : List Str := ["self"]

def t_Screen_state (c : Ctx) (E : XK) : TS :=
  (tRet (tTup (tCons (tFld c.K (tVar 0) "pen") (tCons (tTup (tCons (tFld c.K (tVar 0) "top") (tCons (tFld c.K (tVar 0) "bottom") tNil))) tNil))))
abbrev N_Screen_state : List Str := ["self"]

def t_Screen_page (c : Ctx) (E : XK) : TS :=
  (tRet (tLc (iList c.K (tFld c.K (tVar 0) "rows")) (gName 1) tYes (tCB (uList c.K) (tCons (tFld c.K (tVar 1) "cells") tNil)) [1]))
abbrev N_Screen_page : List Str := ["self", "row"]

section
variable {c : Ctx}
theorem rd_Screen_cursor (R : FScreen c) : RD N_Screen_cursor (t_Screen_cursor c) (sp_Screen_cursor c) := by
  have cl := R.cl
  have n1 := R.n_row
  have n2 := R.n_column
  have n3 := R.n_is_full
  rintro vs H Q E ⟨s, C, S, F, L, rfl, A, W, kk⟩
  unfold t_Screen_cursor
  walk_at "r"
  refine n_tupF W (sz rfl) fun p F' H' s1 h1 W1 => ?_
  exact kk _ F' H' s1 (.tup (st_of h1) (.cons (.int _) (.cons (.int _) (.cons (.bl _) .nil)))) W1
theorem rd_Screen_state (R : FScreen c) : RD N_Screen_state (t_Screen_state c) (sp_Screen_state c) := by
  have cl := R.cl
  have n1 := R.n_pen
  have n2 := R.n_top
  have n3 := R.n_bottom
  rintro vs H Q E ⟨s, C, S, F, L, rfl, A, W, kk⟩
  unfold t_Screen_state
  walk_at "r"
  refine n_tupF W (sz rfl) fun p F1 H1 s1 h1 W1 => ?_
  walk_at "r"
  refine n_tupF W1 (sz rfl) fun q F2 H2 s2 h2 W2 => ?_
  exact kk _ F2 H2 (s1.trans s2) (.tup (st_of h2) (.cons ((Gr.of (s1.trans s2)).dp A.pen) (.cons (.tup (st_of (s2 _ _ h1)) (.cons (.int _) (.cons (.int _) .nil))) .nil))) W2
theorem rd_Screen_page (R : FScreen c) (RR : FRow c) : RD N_Screen_page (t_Screen_page c) (sp_Screen_page c) := by
  have cl := R.cl
  have n1 := R.n_rows
  rintro vs H Q E ⟨s, C, S, F, L, rfl, A, W, kk⟩
  have hlen := A.len
  have hh := A.wf.h2
  unfold t_Screen_page
  walk_at "r"
  refine x_ilist' (sq_of (W.old _ _ A.pr)) ?_
  have hl2 : (rowRefs C.rows).length = S.high := refs_len A
  refine x_lcOk (F := F) (ItOk.list (sq_of A.pr)) W (by omega) (fun i v F' => ∃ (r : Addr) (vals : List V), v = .ref r ∧ F r = none ∧ F' r = some (.lst vals) ∧ DpAll c.K F' vals ((S.rowAt i).cells.map Cell.data)) (fun _ _ _ _ g ⟨r, vals, a, b, d, e⟩ => ⟨r, vals, a, b, g.lst d, g.dpAll e⟩) (fun d i F1 H1 QQ hi s1 W1 kq => ?_) gm_name (fun D ys F1 H1 s1 hl hv W1 => ?_)
  · refine ⟨wipe1, ?_⟩
    obtain ⟨r, hr, e, hm, hrow, _⟩ := row_of A (i := i) (by omega)
    rw [e]
    walk_at "r"
    have W1' : Hold F1 (scrL c s C S (L ++ [d])) H1 := by
      have := W1
      simp only [List.cons_append, List.append_assoc] at this
      exact this
    refine x_cells RR W1' hr ?_
    walk_at "r"
    refine l_list (.inl (sq_of (cl_at W1' hr))) (newF W1 fun q F4 H4 s4 h4 W4 hq => ?_)
    refine kq _ F4 H4 s4 W4 ?_
    have hqF : F q = none := by
      cases e : F q with
      | none => rfl
      | some o => rw [s1 q o e] at hq; cases hq
    rw [hrow]
    exact ⟨q, r.vals, rfl, hqF, h4, (Gr.of (s1.trans s4)).dpAll (A.vals r hm)⟩
  · refine kk D ys F1 H1 s1 ⟨by rw [A.wf.rl, hl, hl2], fun i hi => ?_⟩ W1
    exact hv i (by rw [hl2, ← A.wf.rl]; exact hi)
theorem sp_page_tell {s : Addr} {C : ScrC} {S : Scr} {F H : Hp} {L : List (Addr × HO)} {Q : VK} {E : XK} (A : ScrAt c F C S) (W : Hold F (scrL c s C S L) H) (kk : ScrTell c s C S F L S.pageD Q) : sp_Screen_page c [.ref s] H Q E :=
  ⟨s, C, S, F, L, rfl, A, W, fun D ys F' H' s1 p W1 => kk _ _ H' (s1.trans W1.freezeS) (.lst (sq_of upd_same) ((Gr.of W1.freezeS).dpAll p.dpAll)) W1.freeze⟩
end
end Ss
/-! ## Screens: is_count, need_size, the making -/
namespace Ss
open PySem PySem.Spec PyProof.Rows L2
open Ss in
local macro_rules | `(tactic| walk_at "fg") => `(tactic| first | with_reducible exact fsScreen_g0 | with_reducible exact fsScreen_g1 | with_reducible exact fsScreen_g2 | with_reducible exact fsScreen_g3 | with_reducible exact fsScreen_g4 | with_reducible exact fsScreen_g5 | with_reducible exact fsScreen_g6 | with_reducible exact fsScreen_g7 | with_reducible exact fsScreen_g8 | with_reducible exact fsScreen_g9 | with_reducible exact fsScreen_g10 | with_reducible exact fsScreen_g11 | with_reducible exact fsScreen_g12 | with_reducible exact fsScreen_g13 | with_reducible exact fsRow_g0 | with_reducible exact fsRow_g1 | with_reducible exact fsReader_g0 | with_reducible exact fsReader_g1)
open Ss in
local macro_rules | `(tactic| walk_at "r") => `(tactic| repeat (first
  | with_reducible refine x_seq ?_ | with_reducible refine x_asg ?_ | with_reducible refine x_var rfl ?_ | with_reducible refine x_c ?_ | with_reducible refine x_op ?_ | with_reducible refine x_name ?_ | with_reducible refine x_gcons ?_ | with_reducible refine x_gnil ?_
  | with_reducible refine x_cons ?_ | with_reducible refine x_nil ?_ | with_reducible refine x_cb ?_ | with_reducible refine x_ifs ?_ | with_reducible refine x_test ?_ | with_reducible refine x_bl ?_
  | with_reducible refine g_addNN ?_ | with_reducible refine g_addNL ?_ | with_reducible refine g_addLN ?_ | with_reducible refine l_addI ?_ | with_reducible refine l_subI ?_ | with_reducible refine g_ltNL ?_ | with_reducible refine l_ltI ?_ | with_reducible refine l_leI ?_ | with_reducible refine l_gtI ?_ | with_reducible refine l_geI ?_ | with_reducible refine l_eqX ?_ | with_reducible refine l_neX ?_ | with_reducible refine g_eqNL ?_ | with_reducible refine l_eqII ?_ | with_reducible refine l_neII ?_ | with_reducible refine l_eq rfl ?_ | with_reducible refine l_ne rfl ?_
  | with_reducible refine x_fld ?_ | with_reducible refine x_ret ?_ | with_reducible refine x_drop ?_ | with_reducible refine x_next ?_ | with_reducible refine x_tup ?_ | with_reducible refine x_lst ?_ | with_reducible refine x_f ?_ | with_reducible refine x_o ?_ | with_reducible refine x_n ?_
  | with_reducible refine x_bm ?_ | with_reducible refine x_bm0 ?_ | with_reducible refine x_m1 ?_ | with_reducible refine x_m0 ?_ | with_reducible refine x_isstr ?_ | with_reducible refine x_tystr ?_ | with_reducible refine x_sl ?_ | with_reducible refine x_part ?_ | with_reducible refine x_part' ?_ | with_reducible refine x_nopart ?_
  | with_reducible refine x_sfld ?_ | with_reducible refine x_if ?_ | with_reducible refine x_isty ?_ | with_reducible refine x_chain ?_ | with_reducible refine x_andV ?_ | with_reducible refine x_orV ?_ | with_reducible refine x_notV ?_ | with_reducible refine x_B ?_ | with_reducible refine x_and ?_ | with_reducible refine x_or ?_ | with_reducible refine x_not ?_ | with_reducible refine x_tru ?_ | with_reducible refine x_yes ?_
  | with_reducible refine x_un ?_ | with_reducible refine x_neg ?_ | with_reducible refine x_par ?_ | with_reducible refine x_par' ?_ | with_reducible refine x_retN ?_ | with_reducible refine x_brk ?_ | with_reducible refine x_cont ?_ | with_reducible refine x_rz ?_
  | with_reducible refine l_leS ?_ | with_reducible refine l_ltS ?_ | with_reducible refine l_inX ?_ | with_reducible refine l_niX ?_ | with_reducible refine l_inS ?_ | with_reducible refine l_niS ?_ | with_reducible refine l_count ?_ | with_reducible refine l_ord ?_ | with_reducible refine l_max ?_ | with_reducible refine l_min ?_ | with_reducible refine l_intI ?_ | with_reducible refine l_intB ?_ | with_reducible refine l_is ?_ | with_reducible refine l_isn ?_
  | with_reducible refine g_modNL (by decide) ?_ | with_reducible refine g_divNL (by decide) (by decide) ?_ | with_reducible refine l_modI (by decide) ?_ | with_reducible refine x_for ?_ | with_reducible refine x_lc ?_ | with_reducible refine x_ilist ?_ | with_reducible refine x_itup ?_ | with_reducible refine x_istr ?_ | with_reducible refine x_istr' ?_ | with_reducible refine x_irng1 ?_ | with_reducible refine x_irng2 ?_
  | (with_reducible refine x_get (by first | assumption | exact Hold.get0 (by assumption) | exact Hold.get1 (by assumption)) (by assumption) (by assumption) (by walk_at "fg") ?_)
  | (with_reducible refine x_ao (by first | assumption | exact Hold.get0 (by assumption) | exact Hold.get1 (by assumption)) (by kernel_rfl) ?_)
  | with_reducible refine x_ienum ?_ | with_reducible refine x_izip ?_ | with_reducible refine x_chain3 ?_
  | (with_reducible refine x_par2 ?_)
  | (with_reducible refine x_par3 ?_) | (with_reducible refine x_par3' ?_)))
/-- a count, or a thing that is none -/
def CntArg (c : Ctx) (H : Hp) (x : V) : Prop := (∃ n, x = .int n) ∨ (∃ b, x = .bl b) ∨ ((∃ t, TyX c.K H x (.type t) ∧ kitB t "int" = some false) ∧ ∀ n, x ≠ .int n)
def cntOk (x : V) (lo hi : Int) : Bool := match x with
  | .int n => decide (lo ≤ n) && decide (n ≤ hi)
  | _ => false
theorem CntArg.gr {c : Ctx} {F F' : Hp} {x : V} (g : Gr F F') (h : CntArg c F x) : CntArg c F' x := by
  rcases h with h | h | ⟨⟨t, ht, hk⟩, hn⟩
  · exact .inl h
  · exact .inr (.inl h)
  · exact .inr (.inr ⟨⟨t, tyX_gr g ht, hk⟩, hn⟩)
theorem CntArg.nat {c : Ctx} {H : Hp} {n : Nat} : CntArg c H (.int (n : Nat)) := .inl ⟨_, rfl⟩
theorem cntOk_nat {n lo hi : Nat} (h1 : lo ≤ n) (h2 : n ≤ hi) : cntOk (.int (n : Nat)) (lo : Nat) (hi : Nat) = true := by
  show (decide ((lo : Int) ≤ (n : Int)) && decide ((n : Int) ≤ (hi : Int))) = true
  rw [decide_eq_true (by omega), decide_eq_true (by omega)]; rfl
theorem cntOk_get {x : V} {lo : Nat} {hi : Int} (h : cntOk x (lo : Nat) hi = true) : ∃ n : Nat, x = .int (n : Nat) ∧ lo ≤ n ∧ (n : Int) ≤ hi := by
  cases x with
  | int i =>
    have h' : (decide (((lo : Nat) : Int) ≤ i) && decide (i ≤ hi)) = true := h
    simp at h'
    exact ⟨i.toNat, by rw [Int.toNat_of_nonneg (by omega)], by omega, by omega⟩
  | _ => cases h
def sizeOk (x y z : V) : Bool := cntOk x 2 60 && cntOk y 2 40 && cntOk z 0 200
def sp_is_count (c : Ctx) : Sp := fun vs H Q _ => ∃ (x : V) (lo hi : Int), vs = [x, .int lo, .int hi] ∧ CntArg c H x ∧ Q (.bl (cntOk x lo hi)) H
def sp_need_size (c : Ctx) : Sp := fun vs H Q E => ∃ b : Bool, vs = [.bl b] ∧ (b = true → Q .non H) ∧ (b = false → E (.ref c.cBadSize) none H)
def sp_Screen_init (c : Ctx) : Sp := fun vs H Q E => ∃ (s dx : Addr) (x y z : V) (F : Hp) (L : List (Addr × HO)), vs = [.ref s, x, y, z] ∧ CntArg c F x ∧ CntArg c F y ∧ CntArg c F z ∧ Hold F ((s, .ins c.cScreen dx []) :: L) H ∧
  (∀ w h m : Nat, x = .int (w : Nat) → y = .int (h : Nat) → z = .int (m : Nat) → (2 ≤ w ∧ w ≤ 60) → (2 ≤ h ∧ h ≤ 40) → m ≤ 200 → ScrTo c s F L (Scr.new w h m) Q) ∧ (sizeOk x y z = false → E (.ref c.cBadSize) none H)
def t_is_count (c : Ctx) (E : XK) : TS :=
  (tRet (tAndV (tIsTy c.K (tVar 0) "int") (tAndV (tNotV (tIsTy c.K (tVar 0) "bool")) (tChain uLe uLe (tVar 1) (tVar 0) (tVar 2)))))
abbrev N_is_count : List Str := ["thing", "least", "most"]

def t_need_size (c : Ctx) (E : XK) : TS :=
  (tIfS (tNot (tB (tVar 0))) (tRz c.cBadSize E) tNext)
abbrev N_need_size : List Str := ["good"]

def t_Screen_init (c : Ctx) (E : XK) : TS :=
  (tSeq (tDrop (tF (sp_need_size c) E (tCons (tAndV (tF (sp_is_count c) E0 (tCons (tVar 1) (tCons (tC (v_LEAST_WIDE c)) (tCons (tC (v_MOST_WIDE c)) tNil)))) (tF (sp_is_count c) E0 (tCons (tVar 2) (tCons (tC (v_LEAST_HIGH c)) (tCons (tC (v_MOST_HIGH c)) tNil))))) tNil)))
  (tSeq (tDrop (tF (sp_need_size c) E (tCons (tF (sp_is_count c) E0 (tCons (tVar 3) (tCons (tC (.int 0)) (tCons (tC (v_MOST_KEPT c)) tNil)))) tNil)))
  (tSeq (sFld c.K (tVar 0) (tN c.cReader (sp_Reader_init c) E0 tNil) "reader")
  (tSeq (sFld c.K (tVar 0) (tVar 1) "wide")
  (tSeq (sFld c.K (tVar 0) (tVar 2) "high")
  (tSeq (sFld c.K (tVar 0) (tVar 3) "most")
  (tSeq (sFld c.K (tVar 0) (tLst tNil) "past")
  (tDrop (tO c.cScreen "begin" (sp_Screen_begin c) E0 (tVar 0) tNil)))))))))
abbrev N_Screen_init : List Str := ["self", "wide", "high", "most"]

section
variable {c : Ctx}
theorem rd_is_count : RD N_is_count (t_is_count c) (sp_is_count c) := by
  rintro vs H Q E ⟨x, lo, hi, rfl, ca, kk⟩
  unfold t_is_count
  walk_at "r"
  rcases ca with ⟨n, rfl⟩ | ⟨b, rfl⟩ | ⟨⟨t, ht, hk⟩, hne⟩
  · refine l_isTy (.base (.int _)) (by decide +kernel : kitB "int" "int" = some true) ?_
    walk_at "r"
    refine wT rfl ?_
    walk_at "r"
    refine l_isTy (.base (.int _)) (by decide +kernel : kitB "int" "bool" = some false) ?_
    walk_at "r"
    refine wT rfl ?_
    walk_at "r"
    have kk' : Q (.bl (decide (lo ≤ n) && decide (n ≤ hi))) H := kk
    refine w2 (fun h => ?_) (fun h => ?_)
    · rw [h, Bool.true_and] at kk'
      walk_at "r"
      exact kk'
    · rw [h, Bool.false_and] at kk'
      walk_at "r"
      exact kk'
  · refine l_isTy (.base (.bl _)) (by decide +kernel : kitB "bool" "int" = some true) ?_
    walk_at "r"
    refine wT rfl ?_
    walk_at "r"
    refine l_isTy (.base (.bl _)) (by decide +kernel : kitB "bool" "bool" = some true) ?_
    walk_at "r"
    refine wF rfl ?_
    walk_at "r"
    exact kk
  · refine l_isTy ht hk ?_
    walk_at "r"
    refine wF rfl ?_
    walk_at "r"
    have e : cntOk x lo hi = false := by
      cases x with
      | int n => exact absurd rfl (hne n)
      | _ => rfl
    rw [e] at kk
    exact kk
theorem rd_need_size : RD N_need_size (t_need_size c) (sp_need_size c) := by
  rintro vs H Q E ⟨b, rfl, k1, k2⟩
  unfold t_need_size
  walk_at "r"
  cases b with
  | true => refine wF rfl ?_; walk_at "r"; exact k1 rfl
  | false => refine wT rfl ?_; walk_at "r"; exact k2 rfl
theorem rd_Screen_init (R : FScreen c) : RD N_Screen_init (t_Screen_init c) (sp_Screen_init c) := by
  have cl := R.cl
  rintro vs H Q E ⟨s, dx, x, y, z, F, L, rfl, cx, cy, cz, W, kk, kb⟩
  have kb' : (cntOk x 2 60 && cntOk y 2 40 && cntOk z 0 200) = false → E (.ref c.cBadSize) none H := kb
  unfold t_Screen_init
  walk_at "r"
  refine ⟨_, _, _, rfl, cx.gr W.gr, ?_⟩
  walk_at "r"
  refine w2 (fun c1 => ?_) (fun c1 => ?_)
  case refine_2 =>
    walk_at "r"
    exact ⟨false, rfl, fun z => (nomatch z), fun _ => kb' (by rw [c1]; rfl)⟩
  walk_at "r"
  refine ⟨_, _, _, rfl, cy.gr W.gr, ?_⟩
  walk_at "r"
  refine ⟨cntOk y 2 40, rfl, fun c2 => ?_, fun c2 => kb' (by rw [c1, c2]; rfl)⟩
  walk_at "r"
  refine ⟨_, _, _, rfl, cz.gr W.gr, ?_⟩
  walk_at "r"
  refine ⟨cntOk z 0 200, rfl, fun c3 => ?_, fun c3 => kb' (by rw [c1, c2, c3]; rfl)⟩
  obtain ⟨w, rfl, w1, w2'⟩ := cntOk_get (lo := 2) c1
  obtain ⟨h, rfl, h1, h2⟩ := cntOk_get (lo := 2) c2
  obtain ⟨m, rfl, _, hm'⟩ := cntOk_get (lo := 0) c3
  have w2' : w ≤ 60 := by omega
  have h2 : h ≤ 40 := by omega
  have hm : m ≤ 200 := by omega
  have kk := kk w h m rfl rfl rfl ⟨w1, w2'⟩ ⟨h1, h2⟩ hm
  walk_at "r"
  refine x_an W fun x rdx H1 W1 => ?_
  refine ⟨x, rdx, F, (s, .ins c.cScreen dx []) :: L, rfl, W1, fun H2 W2 => ⟨rfl, ?_⟩⟩
  have W2' : Hold F ((s, .ins c.cScreen dx []) :: (x, rdO c rdx Rdr.new) :: L) H2 := W2.perm (List.Perm.swap _ _ _)
  walk_at "r"
  refine x_put0 (fs' := [("reader", .ref x)]) W2' cl R.n_reader (by show 0 < 1000; decide) (by kernel_rfl) fun H3 W3 => ?_
  walk_at "r"
  refine x_put0 (fs' := [("reader", .ref x), ("wide", .int (w : Nat))]) W3 cl R.n_wide (by show 1 < 1000; decide) (by kernel_rfl) fun H4 W4 => ?_
  walk_at "r"
  refine x_put0 (fs' := [("reader", .ref x), ("wide", .int (w : Nat)), ("high", .int (h : Nat))]) W4 cl R.n_high (by show 2 < 1000; decide) (by kernel_rfl) fun H5 W5 => ?_
  walk_at "r"
  refine x_put0 (fs' := [("reader", .ref x), ("wide", .int (w : Nat)), ("high", .int (h : Nat)), ("most", .int (m : Nat))]) W5 cl R.n_most (by show 3 < 1000; decide) (by kernel_rfl) fun H6 W6 => ?_
  walk_at "r"
  refine n_lstF W6 (sz rfl) fun p F7 H7 s7 h7 W7 => ?_
  walk_at "r"
  refine x_put0 (fs' := fsPart (.ref x) (.int (w : Nat)) (.int (h : Nat)) (.int (m : Nat)) (.ref p)) W7 cl R.n_past (by show 4 < 1000; decide) (by kernel_rfl) fun H8 W8 => ?_
  walk_at "r"
  refine ⟨s, { dx := dx, r := x, rdx := rdx, pp := p, pr := p, penv := .non, pbv := .non, past := [], rows := [] }, ⟨Rdr.new, w, h, m, [], [], 0, 0, false, plainPen, 0, 0, (0, 0, plainPen), none⟩, _, F7, L, rfl, .inr rfl, ⟨w1, w2', h1, h2, hm, Nat.zero_le _, fun _ z => (nomatch z), trivial, rfl, h7, fun _ z => (nomatch z)⟩, W8, fun C' F' H' s9 A' W9 => ?_⟩
  walk_at "r"
  exact kk C' F' H' (s7.trans s9) A' W9
end
end Ss
/-! ## Screens: kept, texts -/
namespace Ss
open PySem PySem.Spec PyProof.Rows L2
open Ss in
local macro_rules | `(tactic| walk_at "fg") => `(tactic| first | with_reducible exact fsScreen_g0 | with_reducible exact fsScreen_g1 | with_reducible exact fsScreen_g2 | with_reducible exact fsScreen_g3 | with_reducible exact fsScreen_g4 | with_reducible exact fsScreen_g5 | with_reducible exact fsScreen_g6 | with_reducible exact fsScreen_g7 | with_reducible exact fsScreen_g8 | with_reducible exact fsScreen_g9 | with_reducible exact fsScreen_g10 | with_reducible exact fsScreen_g11 | with_reducible exact fsScreen_g12 | with_reducible exact fsScreen_g13 | with_reducible exact fsRow_g0 | with_reducible exact fsRow_g1 | with_reducible exact fsReader_g0 | with_reducible exact fsReader_g1)
open Ss in
local macro_rules | `(tactic| walk_at "r") => `(tactic| repeat (first
  | with_reducible refine x_seq ?_ | with_reducible refine x_asg ?_ | with_reducible refine x_var rfl ?_ | with_reducible refine x_c ?_ | with_reducible refine x_op ?_ | with_reducible refine x_name ?_ | with_reducible refine x_gcons ?_ | with_reducible refine x_gnil ?_
  | with_reducible refine x_cons ?_ | with_reducible refine x_nil ?_ | with_reducible refine x_cb ?_ | with_reducible refine x_ifs ?_ | with_reducible refine x_test ?_ | with_reducible refine x_bl ?_
  | with_reducible refine g_addNN ?_ | with_reducible refine g_addNL ?_ | with_reducible refine g_addLN ?_ | with_reducible refine l_addI ?_ | with_reducible refine l_subI ?_ | with_reducible refine g_ltNL ?_ | with_reducible refine l_ltI ?_ | with_reducible refine l_leI ?_ | with_reducible refine l_gtI ?_ | with_reducible refine l_geI ?_ | with_reducible refine l_eqX ?_ | with_reducible refine l_neX ?_ | with_reducible refine g_eqNL ?_ | with_reducible refine l_eqII ?_ | with_reducible refine l_neII ?_ | with_reducible refine l_eq rfl ?_ | with_reducible refine l_ne rfl ?_
  | with_reducible refine x_fld ?_ | with_reducible refine x_ret ?_ | with_reducible refine x_drop ?_ | with_reducible refine x_next ?_ | with_reducible refine x_tup ?_ | with_reducible refine x_lst ?_ | with_reducible refine x_f ?_ | with_reducible refine x_o ?_ | with_reducible refine x_n ?_
  | with_reducible refine x_bm ?_ | with_reducible refine x_bm0 ?_ | with_reducible refine x_m1 ?_ | with_reducible refine x_m0 ?_ | with_reducible refine x_isstr ?_ | with_reducible refine x_tystr ?_ | with_reducible refine x_sl ?_ | with_reducible refine x_part ?_ | with_reducible refine x_part' ?_ | with_reducible refine x_nopart ?_
  | with_reducible refine x_sfld ?_ | with_reducible refine x_if ?_ | with_reducible refine x_isty ?_ | with_reducible refine x_chain ?_ | with_reducible refine x_andV ?_ | with_reducible refine x_orV ?_ | with_reducible refine x_notV ?_ | with_reducible refine x_B ?_ | with_reducible refine x_and ?_ | with_reducible refine x_or ?_ | with_reducible refine x_not ?_ | with_reducible refine x_tru ?_ | with_reducible refine x_yes ?_
  | with_reducible refine x_un ?_ | with_reducible refine x_neg ?_ | with_reducible refine x_par ?_ | with_reducible refine x_par' ?_ | with_reducible refine x_retN ?_ | with_reducible refine x_brk ?_ | with_reducible refine x_cont ?_ | with_reducible refine x_rz ?_
  | with_reducible refine l_leS ?_ | with_reducible refine l_ltS ?_ | with_reducible refine l_inX ?_ | with_reducible refine l_niX ?_ | with_reducible refine l_inS ?_ | with_reducible refine l_niS ?_ | with_reducible refine l_count ?_ | with_reducible refine l_ord ?_ | with_reducible refine l_max ?_ | with_reducible refine l_min ?_ | with_reducible refine l_intI ?_ | with_reducible refine l_intB ?_ | with_reducible refine l_is ?_ | with_reducible refine l_isn ?_
  | with_reducible refine g_modNL (by decide) ?_ | with_reducible refine g_divNL (by decide) (by decide) ?_ | with_reducible refine l_modI (by decide) ?_ | with_reducible refine x_for ?_ | with_reducible refine x_lc ?_ | with_reducible refine x_ilist ?_ | with_reducible refine x_itup ?_ | with_reducible refine x_istr ?_ | with_reducible refine x_istr' ?_ | with_reducible refine x_irng1 ?_ | with_reducible refine x_irng2 ?_
  | (with_reducible refine x_get (by first | assumption | exact Hold.get0 (by assumption) | exact Hold.get1 (by assumption)) (by assumption) (by assumption) (by walk_at "fg") ?_)
  | (with_reducible refine x_ao (by first | assumption | exact Hold.get0 (by assumption) | exact Hold.get1 (by assumption)) (by kernel_rfl) ?_)
  | with_reducible refine x_ienum ?_ | with_reducible refine x_izip ?_ | with_reducible refine x_chain3 ?_
  | (with_reducible refine x_par2 ?_)
  | (with_reducible refine x_par3 ?_) | (with_reducible refine x_par3' ?_)))
/-- a text without its blanks at the end -/
def rstripL (l : List Nat) : List Nat := (l.reverse.dropWhile (· == 32)).reverse
/-- a row's signs, with no blanks at the end -/
def rowL (p : PRow) : List Nat := rstripL (p.cells.map (·.sign))
abbrev rowText (p : PRow) : Str := T (rowL p)
abbrev textsV (l : List PRow) : List V := l.map fun p => .str (rowText p)
def textsD (l : List PRow) : PyData := .list (l.map fun p => .str (rowText p))
def sp_Screen_kept (c : Ctx) : Sp := fun vs H Q _ => ∃ (s : Addr) (C : ScrC) (S : Scr) (F : Hp) (L : List (Addr × HO)), vs = [.ref s] ∧ ScrAt c F C S ∧ Hold F (scrL c s C S L) H ∧ ScrOwn c s C S F L (fun _ ys => ys = textsV S.past) Q
def sp_Screen_texts (c : Ctx) : Sp := fun vs H Q _ => ∃ (s : Addr) (C : ScrC) (S : Scr) (F : Hp) (L : List (Addr × HO)), vs = [.ref s] ∧ ScrAt c F C S ∧ Hold F (scrL c s C S L) H ∧ ScrOwn c s C S F L (fun _ ys => ys = textsV S.rows) Q
theorem rstrip_eq (l : List Nat) : Txt.rstripChars (T l) ⟨#[32]⟩ = T (rstripL l) := by
  have key : l.take (l.length - (l.reverse.takeWhile (⟨#[32]⟩ : Str).cps.contains).length) = rstripL l := by
    have e : (⟨#[32]⟩ : Str).cps.contains = (fun x : Nat => x == 32) := by funext x; rw [Bool.eq_iff_iff]; simp
    rw [e]
    unfold rstripL
    have h := List.takeWhile_append_dropWhile (p := fun x : Nat => x == 32) (l := l.reverse)
    generalize hA : l.reverse.takeWhile (fun x : Nat => x == 32) = A at h
    generalize hB : l.reverse.dropWhile (fun x : Nat => x == 32) = B at h
    have hl : l = B.reverse ++ A.reverse := by rw [← List.reverse_append, h, List.reverse_reverse]
    rw [hl]
    rw [show (B.reverse ++ A.reverse).length - A.length = B.reverse.length by simp]
    exact List.take_left
  unfold Txt.rstripChars Txt.stripBy
  split
  · rename_i hs
    unfold stripSame at hs
    rw [Bool.and_eq_true] at hs
    have h2 : stripHi (⟨#[32]⟩ : Str).cps.contains true (T l) 0 = (T l).length := by simpa [stripLo] using hs.2
    unfold stripHi at h2
    rw [if_pos rfl, T_len, T_list, List.drop_zero] at h2
    rw [h2, List.take_length] at key
    rw [← key]
  · show (⟨(T l).cps.extract 0 (stripHi (⟨#[32]⟩ : Str).cps.contains true (T l) 0)⟩ : Str) = _
    unfold stripHi
    rw [if_pos rfl, T_len, T_list, List.drop_zero, ← key]
    simp
def t_Screen_kept (c : Ctx) (E : XK) : TS :=
  (tRet (tLc (iList c.K (tFld c.K (tVar 0) "past")) (gName 2) tYes (tBM c.K "str" u_rstrip (tM1 (u_join c.K) (tC (.str ⟨#[]⟩)) (tLc (iList c.K (tFld c.K (tVar 2) "cells")) (gName 1) tYes (tOp (uIx c.K) (tVar 1) (tC (.int 0))) [1])) (tCons (tC (.str ⟨#[32]⟩)) tNil)) [2]))
abbrev N_Screen_kept : List Str := ["self", "cell", "row"]

def t_Screen_texts (c : Ctx) (E : XK) : TS :=
  (tRet (tLc (iList c.K (tFld c.K (tVar 0) "rows")) (gName 2) tYes (tBM c.K "str" u_rstrip (tM1 (u_join c.K) (tC (.str ⟨#[]⟩)) (tLc (iList c.K (tFld c.K (tVar 2) "cells")) (gName 1) tYes (tOp (uIx c.K) (tVar 1) (tC (.int 0))) [1])) (tCons (tC (.str ⟨#[32]⟩)) tNil)) [2]))
abbrev N_Screen_texts : List Str := ["self", "cell", "row"]

section
variable {c : Ctx}
theorem texts_of {l : List PRow} {ys : List V} (hl : ys.length = l.length) (h : ∀ i, i < l.length → ys.getD i .non = .str (rowText (l.getD i ⟨[], false⟩))) : ys = textsV l := by
  refine List.ext_getElem? fun i => ?_
  by_cases hi : i < l.length
  · have a := h i hi
    rw [List.getD_eq_getElem?_getD, List.getElem?_eq_getElem (by omega), List.getD_eq_getElem?_getD, List.getElem?_eq_getElem hi] at a
    rw [List.getElem?_eq_getElem (by omega), List.getElem?_map, List.getElem?_eq_getElem hi]
    exact congrArg some a
  · rw [List.getElem?_eq_none (by omega), List.getElem?_eq_none (by simpa using hi)]
theorem cell_view {K : PySem.W.Frag} {F : Hp} {v : V} {x : Cell} (h : Dp K F v x.data) : ∃ b pv, v = .ref b ∧ SqT K F b [.str (T [x.sign]), pv] ∧ Dp K F pv (penData x.pen) := by
  cases h with
  | tup hs ha =>
    cases ha with
    | cons h1 h2 =>
      cases h1
      cases h2 with
      | cons h3 h4 => cases h4; exact ⟨_, _, rfl, hs, h3⟩
/-- ''.join([cell[0] for cell in row.cells]).rstrip(' ') of the row in slot k -/
theorem x_rowText {σ : L2.St} {F H : Hp} {L : List (Addr × HO)} {Q : VK} {r : RowC} {dx : Addr} {g : Bool} {i k : Nat} (RR : FRow c) (W : Hold F L H) (hk : σ[k]? = some (some (.ref r.a))) (hi : i < σ.length) (ho : F r.a = some (rowO c dx r.cl g)) (hc : F r.cl = some (.lst r.vals)) (hd : cellsAt c F r) (hl : r.row.cells.length ≤ 60)
    (kk : ∀ F' H', Same F F' → Hold F' L H' → Q (.str (rowText r.row)) H') :
    tBM c.K "str" u_rstrip (tM1 (u_join c.K) (tC (.str ⟨#[]⟩)) (tLc (iList c.K (tFld c.K (tVar k) "cells")) (gName i) tYes (tOp (uIx c.K) (tVar i) (tC (.int 0))) [i])) (tCons (tC (.str ⟨#[32]⟩)) tNil) σ H Q := by
  have cl := RR.cl
  have n1 := RR.n_cells
  have hvl := one_in hd
  refine x_bm (x_m1 (x_c (x_isstr (x_lc (x_ilist (x_fld (x_var hk (x_get (W.old _ _ ho) cl n1 fsRow_g0 ?_))))))))
  refine x_ilist' (sq_of (W.old _ _ hc)) ?_
  refine x_lcOk (F := F) (ItOk.list (sq_of hc)) W (by omega) (fun j v _ => v = .str (T [(r.row.cells.getD j blankCell).sign])) (fun _ _ _ _ _ h => h) (fun d j F' H' QQ hj s W' kq => ?_) gm_name (fun D ys F' H' s hlen hv W' => ?_)
  · refine ⟨wipe1, ?_⟩
    have hj' : j < r.row.cells.length := by omega
    have hdj := dpAll_get hd j (by rw [List.length_map]; exact hj')
    rw [getD_map (d := blankCell) hj'] at hdj
    obtain ⟨b, pv, eb, hb, _⟩ := cell_view hdj
    rw [eb]
    refine x_op (x_var (v := .ref b) (by rw [List.getElem?_set_self (by rw [wipe_length]; exact hi)]) (x_c ?_))
    exact l_ixT (W'.gr.sqT ((Gr.of s).sqT hb)) rfl (kq _ F' H' (Same.refl F') W' rfl)
  · have ey : ys = (r.row.cells.map fun x => [x.sign]).map fun l => .str (T l) := by
      refine List.ext_getElem? fun j => ?_
      by_cases hj : j < r.row.cells.length
      · have a1 := hv j (by omega)
        have hjy : j < ys.length := by omega
        rw [List.getD_eq_getElem?_getD, List.getElem?_eq_getElem hjy, List.getD_eq_getElem?_getD, List.getElem?_eq_getElem hj] at a1
        rw [List.getElem?_eq_getElem hjy, List.getElem?_map, List.getElem?_map, List.getElem?_eq_getElem hj]
        exact congrArg some a1
      · rw [List.getElem?_eq_none (by omega), List.getElem?_eq_none (by simpa using hj)]
    rw [ey] at W'
    refine l_join 1 (.inl (sq_of W'.get0)) (fun l hl => ?_) (by simp; omega) ?_
    · obtain ⟨x, hx, rfl⟩ := List.mem_map.mp hl
      exact Nat.le_refl _
    · rw [joinL_nil]
      have ef : (r.row.cells.map fun x => [x.sign]).flatten = r.row.cells.map (·.sign) := by
        generalize r.row.cells = l
        induction l with
        | nil => rfl
        | cons x l ih => rw [List.map_cons, List.flatten_cons, ih]; rfl
      rw [ef]
      refine x_tystr (x_cons (x_c (x_nil ⟨_, _, rfl, rfl, ?_, by rw [rstrip_eq]; exact kk F' H' s W'.drop⟩)))
      rw [T_len, List.length_map]
      exact szl (by omega)
theorem rd_Screen_kept (R : FScreen c) (RR : FRow c) : RD N_Screen_kept (t_Screen_kept c) (sp_Screen_kept c) := by
  have cl := R.cl
  have n1 := R.n_past
  rintro vs H Q E ⟨s, C, S, F, L, rfl, A, W, kk⟩
  have hpl := A.plen
  have hlen : C.past.length = S.past.length := by rw [← A.past, List.length_map]
  have hw2 := A.wf.w2
  unfold t_Screen_kept
  walk_at "r"
  refine x_ilist' (sq_of (W.old _ _ A.pp)) ?_
  have hl2 : (rowRefs C.past).length = C.past.length := by unfold rowRefs; rw [List.length_map]
  refine x_lcOk (F := F) (ItOk.list (sq_of A.pp)) W (by omega) (fun i v F' => v = .str (rowText (S.past.getD i ⟨[], false⟩))) (fun _ _ _ _ g h => h) (fun d i F1 H1 QQ hi s1 W1 kq => ?_) gm_name (fun D ys F1 H1 s1 hl hv W1 => ?_)
  · refine ⟨wipe1, ?_⟩
    have hi' : i < C.past.length := by omega
    have hr : C.past[i]? = some C.past[i] := List.getElem?_eq_getElem hi'
    have hm : C.past[i] ∈ C.past := List.getElem_mem hi'
    have e : (rowRefs C.past).getD i .non = .ref C.past[i].a := by unfold rowRefs; rw [List.getD_eq_getElem?_getD, List.getElem?_map, hr]; rfl
    have e2 : S.past.getD i ⟨[], false⟩ = C.past[i].row := by rw [← A.past, List.getD_eq_getElem?_getD, List.getElem?_map, hr]; rfl
    rw [e]
    obtain ⟨x1, x2, x3⟩ := A.pin _ hm
    have hwr : C.past[i].row.cells.length ≤ 60 := by
      rw [A.wf.pw C.past[i].row (by rw [← A.past]; exact List.mem_map_of_mem hm)]; exact hw2
    refine x_rowText RR W1 (by rw [List.getElem?_set_self (by rw [wipe_length]; show 2 < 3; decide)]) (by rw [List.length_set, wipe_length]; show 1 < 3; decide) (s1 _ _ x1) (s1 _ _ x2) ((Gr.of s1).dpAll x3) hwr fun F4 H4 s4 W4 => ?_
    exact kq _ F4 H4 s4 W4 (by rw [e2])
  · refine kk D ys F1 H1 s1 (texts_of (by omega) fun i hi => hv i (by omega)) W1
def thawF (F : Hp) (p : Addr) : Hp := fun b => if b = p then none else F b
theorem thaw_same {F F' : Hp} {p : Addr} (s : Same F F') (h : F p = none) : Same F (thawF F' p) := fun b o e => by
  have hb : b ≠ p := fun z => by rw [z, h] at e; cases e
  show (if b = p then none else F' b) = some o
  rw [if_neg hb]; exact s b o e
theorem Hold.thaw {F H : Hp} {L : List (Addr × HO)} {p : Addr} {o : HO} (W : Hold F L H) (h : F p = some o) : Hold (thawF F p) ((p, o) :: L) H where
  old := fun b u e => by
    have e' : (if b = p then none else F b) = some u := e
    split at e'
    · cases e'
    · exact W.old b u e'
  own := fun x hx => by
    rcases List.mem_cons.mp hx with rfl | hx
    · exact W.old p o h
    · exact W.own x hx
  sep := fun x hx => by
    show (if x.1 = p then none else F x.1) = none
    split
    · rfl
    · rename_i hp
      rcases List.mem_cons.mp hx with rfl | hx
      · exact absurd rfl hp
      · exact W.sep x hx
  nd := by
    rw [List.map_cons, List.nodup_cons]
    refine ⟨fun hm => ?_, W.nd⟩
    obtain ⟨x, hx, e⟩ := List.mem_map.mp hm
    have z := W.sep x hx
    have e' : x.1 = p := e
    rw [e', h] at z; cases z
/-- the same of one of the screen's own rows -/
theorem x_rowTextS {σ : L2.St} {F H : Hp} {L : List (Addr × HO)} {Q : VK} {s : Addr} {C : ScrC} {S : Scr} {r : RowC} {i k j : Nat} (RR : FRow c) (W : Hold F (scrL c s C S L) H) (hr : C.rows[j]? = some r) (hk : σ[k]? = some (some (.ref r.a))) (hi : i < σ.length) (hd : cellsAt c F r) (hl : r.row.cells.length ≤ 60)
    (kk : ∀ F' H', Same F F' → Hold F' (scrL c s C S L) H' → Q (.str (rowText r.row)) H') :
    tBM c.K "str" u_rstrip (tM1 (u_join c.K) (tC (.str ⟨#[]⟩)) (tLc (iList c.K (tFld c.K (tVar k) "cells")) (gName i) tYes (tOp (uIx c.K) (tVar i) (tC (.int 0))) [i])) (tCons (tC (.str ⟨#[32]⟩)) tNil) σ H Q := by
  have W1 := W.row2 hr
  have W2 := W1.freeze
  have s2 := W1.freezeS
  have ea : (upd F r.a (rowO c r.dx r.cl r.row.goes)) r.a = some (rowO c r.dx r.cl r.row.goes) := upd_same
  have na : F r.a = none := W1.sep _ List.mem_cons_self
  generalize upd F r.a (rowO c r.dx r.cl r.row.goes) = F2 at W2 s2 ea
  have W3 := W2.freeze
  have s3 := W2.freezeS
  have ec : (upd F2 r.cl (.lst r.vals)) r.cl = some (.lst r.vals) := upd_same
  have nc : F2 r.cl = none := W2.sep _ List.mem_cons_self
  generalize upd F2 r.cl (.lst r.vals) = F3 at W3 s3 ec
  refine x_rowText RR W3 hk hi (s3 _ _ ea) ec ((Gr.of (s2.trans s3)).dpAll hd) hl fun F4 H4 s4 W4 => ?_
  have W5 := W4.thaw (s4 _ _ ec)
  have s5 : Same F2 (thawF F4 r.cl) := thaw_same (s3.trans s4) nc
  have W6 := W5.thaw (s5 _ _ ea)
  have s6 : Same F (thawF (thawF F4 r.cl) r.a) := thaw_same (s2.trans s5) na
  refine kk _ H4 s6 ?_
  have hj : j < C.rows.length := (List.getElem?_eq_some_iff.mp hr).1
  have z := W6.row2Back (C := C) (i := j) hj
  have e : C.rows.set j r = C.rows := by
    refine List.ext_getElem? fun m => ?_
    by_cases e : j = m
    · subst e; rw [List.getElem?_set_self hj, hr]
    · rw [List.getElem?_set_ne e]
  rw [e] at z; exact z
theorem rd_Screen_texts (R : FScreen c) (RR : FRow c) : RD N_Screen_texts (t_Screen_texts c) (sp_Screen_texts c) := by
  have cl := R.cl
  have n1 := R.n_rows
  rintro vs H Q E ⟨s, C, S, F, L, rfl, A, W, kk⟩
  have hlen := A.len
  have hh := A.wf.h2
  have hw2 := A.wf.w2
  unfold t_Screen_texts
  walk_at "r"
  refine x_ilist' (sq_of (W.old _ _ A.pr)) ?_
  have hl2 : (rowRefs C.rows).length = S.high := refs_len A
  refine x_lcOk (F := F) (ItOk.list (sq_of A.pr)) W (by omega) (fun i v F' => v = .str (rowText (S.rows.getD i ⟨[], false⟩))) (fun _ _ _ _ g h => h) (fun d i F1 H1 QQ hi s1 W1 kq => ?_) gm_name (fun D ys F1 H1 s1 hl hv W1 => ?_)
  · refine ⟨wipe1, ?_⟩
    obtain ⟨r, hr, e, hm, hrow, _⟩ := row_of A (i := i) (by omega)
    rw [e]
    have W1' : Hold F1 (scrL c s C S (L ++ [d])) H1 := by
      have := W1
      simp only [List.cons_append, List.append_assoc] at this
      exact this
    have hwr : r.row.cells.length ≤ 60 := by rw [row_w A hm]; exact hw2
    refine x_rowTextS RR W1' hr (by rw [List.getElem?_set_self (by rw [wipe_length]; show 2 < 3; decide)]) (by rw [List.length_set, wipe_length]; show 1 < 3; decide) ((Gr.of s1).dpAll (A.vals r hm)) hwr fun F4 H4 s4 W4 => ?_
    refine kq _ F4 H4 s4 ?_ (by have e2 : S.rows.getD i ⟨[], false⟩ = r.row := hrow
                                rw [e2])
    simp only [List.cons_append, List.append_assoc]
    exact W4
  · have hrl := A.wf.rl
    refine kk D ys F1 H1 s1 (texts_of (by omega) fun i hi => hv i (by omega)) W1
theorem texts_dp {K : PySem.W.Frag} {F : Hp} (l : List PRow) : DpAll K F (textsV l) (l.map fun p => .str (rowText p)) := by
  induction l with
  | nil => exact .nil
  | cons p l ih => exact .cons (.str _) ih
theorem sp_kept_tell {s : Addr} {C : ScrC} {S : Scr} {F H : Hp} {L : List (Addr × HO)} {Q : VK} {E : XK} (A : ScrAt c F C S) (W : Hold F (scrL c s C S L) H) (kk : ScrTell c s C S F L (textsD S.past) Q) : sp_Screen_kept c [.ref s] H Q E :=
  ⟨s, C, S, F, L, rfl, A, W, fun D ys F' H' s1 p W1 => kk _ _ H' (s1.trans W1.freezeS) (.lst (sq_of upd_same) (by rw [p]; exact texts_dp _)) W1.freeze⟩
theorem sp_texts_tell {s : Addr} {C : ScrC} {S : Scr} {F H : Hp} {L : List (Addr × HO)} {Q : VK} {E : XK} (A : ScrAt c F C S) (W : Hold F (scrL c s C S L) H) (kk : ScrTell c s C S F L (textsD S.rows) Q) : sp_Screen_texts c [.ref s] H Q E :=
  ⟨s, C, S, F, L, rfl, A, W, fun D ys F' H' s1 p W1 => kk _ _ H' (s1.trans W1.freezeS) (.lst (sq_of upd_same) (by rw [p]; exact texts_dp _)) W1.freeze⟩
def sp_Screen_size (c : Ctx) : Sp := fun vs H Q _ => ∃ (s : Addr) (C : ScrC) (S : Scr) (F : Hp) (L : List (Addr × HO)), vs = [.ref s] ∧ Hold F (scrL c s C S L) H ∧ ScrTell c s C S F L (.tuple [.int (S.wide : Nat), .int (S.high : Nat)]) Q
def sp_Screen_cell (c : Ctx) : Sp := fun vs H Q E => ∃ (s : Addr) (C : ScrC) (S : Scr) (x y : V) (F : Hp) (L : List (Addr × HO)), vs = [.ref s, x, y] ∧ CntArg c F x ∧ CntArg c F y ∧ ScrAt c F C S ∧ Hold F (scrL c s C S L) H ∧
  (∀ i j : Nat, x = .int (i : Nat) → y = .int (j : Nat) → i < S.high → j < S.wide → ∀ v, Dp c.K F v ((S.rowAt i).cells.getD j blankCell).data → Q v H) ∧ ((cntOk x 0 ((S.high : Int) - 1) && cntOk y 0 ((S.wide : Int) - 1)) = false → E (.ref c.cBadPlace) none H)
def t_Screen_size (c : Ctx) (E : XK) : TS :=
  (tRet (tTup (tCons (tFld c.K (tVar 0) "wide") (tCons (tFld c.K (tVar 0) "high") tNil))))
abbrev N_Screen_size : List Str := ["self"]

def t_Screen_cell (c : Ctx) (E : XK) : TS :=
  (tSeq (tIfS (tOr (tNot (tB (tF (sp_is_count c) E0 (tCons (tVar 1) (tCons (tC (.int 0)) (tCons (tOp uSub (tFld c.K (tVar 0) "high") (tC (.int 1))) tNil)))))) (tNot (tB (tF (sp_is_count c) E0 (tCons (tVar 2) (tCons (tC (.int 0)) (tCons (tOp uSub (tFld c.K (tVar 0) "wide") (tC (.int 1))) tNil))))))) (tRz c.cBadPlace E) tNext)
  (tRet (tOp (uIx c.K) (tFld c.K (tOp (uIx c.K) (tFld c.K (tVar 0) "rows") (tVar 1)) "cells") (tVar 2))))
abbrev N_Screen_cell : List Str := ["self", "row", "column"]

theorem rd_Screen_size (R : FScreen c) : RD N_Screen_size (t_Screen_size c) (sp_Screen_size c) := by
  have cl := R.cl
  have n1 := R.n_wide
  have n2 := R.n_high
  rintro vs H Q E ⟨s, C, S, F, L, rfl, W, kk⟩
  unfold t_Screen_size
  walk_at "r"
  refine n_tupF W (sz rfl) fun p F' H' s1 h1 W1 => ?_
  exact kk _ F' H' s1 (.tup (st_of h1) (.cons (.int _) (.cons (.int _) .nil))) W1
theorem rd_Screen_cell (R : FScreen c) (RR : FRow c) : RD N_Screen_cell (t_Screen_cell c) (sp_Screen_cell c) := by
  have cl := R.cl
  have n1 := R.n_wide
  have n2 := R.n_high
  have n3 := R.n_rows
  rintro vs H Q E ⟨s, C, S, x, y, F, L, rfl, cx, cy, A, W, kk, kb⟩
  have wf := A.wf
  unfold t_Screen_cell
  walk_at "r"
  refine ⟨_, _, _, rfl, cx.gr W.gr, ?_⟩
  walk_at "r"
  generalize hc1 : cntOk x 0 ((S.high : Int) - 1) = b1 at kb
  generalize hc2 : cntOk y 0 ((S.wide : Int) - 1) = b2 at kb
  cases b1 with
  | false =>
    refine wT rfl ?_
    walk_at "r"
    refine wT rfl ?_
    walk_at "r"
    exact kb rfl
  | true =>
    refine wF rfl ?_
    walk_at "r"
    refine ⟨_, _, _, rfl, cy.gr W.gr, ?_⟩
    rw [hc2]
    walk_at "r"
    cases b2 with
    | false =>
      refine wT rfl ?_
      walk_at "r"
      exact kb rfl
    | true =>
      refine wF rfl ?_
      obtain ⟨i, rfl, _, hi⟩ := cntOk_get (lo := 0) hc1
      obtain ⟨j, rfl, _, hj⟩ := cntOk_get (lo := 0) hc2
      have w1 := wf.w1
      have h1 := wf.h1
      have hi' : i < S.high := by omega
      have hj' : j < S.wide := by omega
      obtain ⟨r, hr, e, hm, hrow, _⟩ := row_of A hi'
      walk_at "r"
      refine x_rowIx A W hr ?_
      walk_at "r"
      refine x_cells RR W hr ?_
      walk_at "r"
      have hlr : r.vals.length = S.wide := by rw [one_in (A.vals r hm), row_w A hm]
      refine g_ixL (sq_of (cl_at W hr)) (by omega) ?_
      refine kk i j rfl rfl hi' hj' _ ?_
      have hd := dpAll_get (A.vals r hm) j (by rw [List.length_map, row_w A hm]; exact hj')
      rw [getD_map (d := blankCell) (by rw [row_w A hm]; exact hj')] at hd
      rw [hrow]; exact hd
end
end Ss
/-! ## Screens: what holds of what they show -/
namespace Ss
open PySem PySem.Spec PyProof.Rows L2
def sgOk (n : Nat) : Prop := isSign n = true ∧ n ≠ 10
def penOk (p : Pen) : Prop := p.1 ≤ 7 ∧ p.2.1 ≤ 7 ∧ p.2.2 ≤ 3
def Cell.Ok (x : Cell) : Prop := sgOk x.sign ∧ penOk x.pen
def PRow.Ok (p : PRow) : Prop := ∀ x ∈ p.cells, x.Ok
def Tk.SgOk : Tk → Prop
  | .sign n => sgOk n
  | _ => True
theorem plainPen_ok : penOk plainPen := ⟨Nat.zero_le _, Nat.zero_le _, Nat.zero_le _⟩
theorem blank_ok : blankCell.Ok := ⟨⟨rfl, by decide⟩, plainPen_ok⟩
theorem blankRow_ok (w : Nat) : (blankRow w).Ok := fun x hx => by
  rw [(List.mem_replicate.mp hx).2]; exact blank_ok
structure Scr.Ok (S : Scr) : Prop where
  rows : ∀ p ∈ S.rows, p.Ok
  past : ∀ p ∈ S.past, p.Ok
  pen : penOk S.pen
  pb : penOk S.putBy.2.2
  last : ∀ n, S.last = some n → sgOk n
  tb : S.top < S.bottom
  full : S.full = true → S.column = S.wide - 1
  h1 : 2 ≤ S.high
namespace Scr
variable {S : Scr}
theorem rowAt_ok (h : S.Ok) (i : Nat) : (S.rowAt i).Ok := by
  unfold rowAt
  by_cases hi : i < S.rows.length
  · exact h.rows _ (getD_mem hi)
  · rw [List.getD_eq_getElem?_getD, List.getElem?_eq_none (by omega)]
    exact fun x hx => (nomatch hx)
theorem setRow_ok (h : S.Ok) (i : Nat) {p : PRow} (hp : p.Ok) : (S.setRow i p).Ok :=
  ⟨fun q hq => by
    rcases List.mem_or_eq_of_mem_set hq with hq | rfl
    · exact h.rows q hq
    · exact hp, h.past, h.pen, h.pb, h.last, h.tb, h.full, h.h1⟩
theorem setGoes_ok (h : S.Ok) (i : Nat) (b : Bool) : (S.setGoes i b).Ok := setRow_ok h i (rowAt_ok h i)
theorem stand_ok (h : S.Ok) (r k : Int) : (S.stand r k).Ok := ⟨h.rows, h.past, h.pen, h.pb, h.last, h.tb, fun z => (nomatch z), h.h1⟩
theorem cutOff_ok (h : S.Ok) (t : Nat) : (S.cutOff t).Ok := by
  unfold cutOff
  split
  · exact setGoes_ok (setGoes_ok h _ _) _ _
  · exact setGoes_ok h _ _
theorem rep_ok {n w : Nat} {p : PRow} (hp : p ∈ List.replicate n (blankRow w)) : p.Ok := by
  rw [(List.mem_replicate.mp hp).2]; exact blankRow_ok w
theorem begin_ok (h1 : 2 ≤ S.high) (hp : ∀ p ∈ S.past, p.Ok) : S.begin.Ok :=
  ⟨fun p hp => rep_ok hp, hp, plainPen_ok, plainPen_ok, fun n z => (nomatch z), by show 0 < S.high - 1; omega, fun z => (nomatch z), h1⟩
theorem rolled_ok (h : S.Ok) (t n : Nat) : (S.rolled t n).Ok := by
  refine ⟨fun p hp => ?_, fun p hp => ?_, h.pen, h.pb, h.last, h.tb, h.full, h.h1⟩
  · rcases List.mem_append.mp hp with hp | hp
    · rcases List.mem_append.mp hp with hp | hp
      · rcases List.mem_append.mp hp with hp | hp
        · exact h.rows p (List.mem_of_mem_take hp)
        · exact h.rows p (List.mem_of_mem_drop (List.mem_of_mem_take hp))
      · exact rep_ok hp
    · exact h.rows p (List.mem_of_mem_drop hp)
  · have hp' : p ∈ (if t = 0 then (S.past ++ S.rows.take n).drop (S.past.length + n - S.most) else S.past) := hp
    split at hp'
    · rcases List.mem_append.mp (List.mem_of_mem_drop hp') with hp | hp
      · exact h.past p hp
      · exact h.rows p (List.mem_of_mem_take hp)
    · exact h.past p hp'
theorem roll_ok (h : S.Ok) (t n : Nat) : (S.roll t n).Ok := cutOff_ok (rolled_ok h _ _) _
theorem rolledDown_ok (h : S.Ok) (t n : Nat) : (S.rolledDown t n).Ok := by
  refine ⟨fun p hp => ?_, h.past, h.pen, h.pb, h.last, h.tb, h.full, h.h1⟩
  rcases List.mem_append.mp hp with hp | hp
  · rcases List.mem_append.mp hp with hp | hp
    · rcases List.mem_append.mp hp with hp | hp
      · exact h.rows p (List.mem_of_mem_take hp)
      · exact rep_ok hp
    · exact h.rows p (List.mem_of_mem_drop (List.mem_of_mem_take hp))
  · exact h.rows p (List.mem_of_mem_drop hp)
theorem rollDown_ok (h : S.Ok) (t n : Nat) : (S.rollDown t n).Ok := cutOff_ok (rolledDown_ok h _ _) _
theorem down_ok (h : S.Ok) : S.down.Ok := by
  unfold down
  split
  · exact roll_ok h _ _
  · split
    · exact ⟨h.rows, h.past, h.pen, h.pb, h.last, h.tb, h.full, h.h1⟩
    · exact h
theorem up_ok (h : S.Ok) : S.up.Ok := by
  unfold up
  split
  · exact rollDown_ok h _ _
  · split
    · exact ⟨h.rows, h.past, h.pen, h.pb, h.last, h.tb, h.full, h.h1⟩
    · exact h
theorem setCells_ok (h : S.Ok) {l : List Cell} (hl : ∀ x ∈ l, x.Ok) : (S.setCells l).Ok := setRow_ok h _ hl
theorem wrap_ok (h : S.Ok) : S.wrap.Ok := by
  unfold wrap
  split
  · exact stand_ok (down_ok (setGoes_ok h _ _)) _ _
  · exact h
theorem wrap_full (S : Scr) : S.wrap.full = false := by
  unfold wrap
  split
  · rfl
  · rename_i h; simpa using h
theorem type1_ok (h : S.Ok) (hf : S.full = false) {n : Nat} (hn : sgOk n) : (S.type1 n).Ok := by
  have h1 : (S.setCells ((S.rowAt S.row).cells.set S.column ⟨n, S.pen⟩)).Ok := setCells_ok h fun x hx => by
    rcases List.mem_or_eq_of_mem_set hx with hx | rfl
    · exact rowAt_ok h _ x hx
    · exact ⟨hn, h.pen⟩
  have h2 : ∀ m, some n = some m → sgOk m := fun m e => by cases e; exact hn
  unfold type1 next
  split
  · rename_i hc
    exact ⟨h1.rows, h1.past, h1.pen, h1.pb, h2, h1.tb, fun _ => hc, h1.h1⟩
  · exact ⟨h1.rows, h1.past, h1.pen, h1.pb, h2, h1.tb, fun z => absurd (hf.symm.trans z) (by decide), h1.h1⟩
theorem put_ok (h : S.Ok) {n : Nat} (hn : sgOk n) : (S.put n).Ok := type1_ok (wrap_ok h) (wrap_full S) hn
theorem repc_ok {n : Nat} {x : Cell} (hx : x ∈ List.replicate n blankCell) : x.Ok := by
  rw [(List.mem_replicate.mp hx).2]; exact blank_ok
theorem nofull_ok (h : S.Ok) : ({ S with full := false } : Scr).Ok := ⟨h.rows, h.past, h.pen, h.pb, h.last, h.tb, fun z => (nomatch z), h.h1⟩
theorem erase_ok (h : S.Ok) (w : Nat) : (S.erase w).Ok := by
  have hr := rowAt_ok h S.row
  have h1 : (if w = 101 then S.setCells ((S.rowAt S.row).cells.take S.column ++ List.replicate (S.wide - S.column) blankCell)
    else if w = 98 then S.setCells (List.replicate (S.column + 1) blankCell ++ (S.rowAt S.row).cells.drop (S.column + 1))
    else if w = 107 then S.setCells (List.replicate S.wide blankCell)
    else { S with rows := List.replicate S.high (blankRow S.wide) }).Ok := by
    split
    · exact setCells_ok h fun x hx => by
        rcases List.mem_append.mp hx with hx | hx
        · exact hr x (List.mem_of_mem_take hx)
        · exact repc_ok hx
    · split
      · exact setCells_ok h fun x hx => by
          rcases List.mem_append.mp hx with hx | hx
          · exact repc_ok hx
          · exact hr x (List.mem_of_mem_drop hx)
      · split
        · exact setCells_ok h fun x hx => repc_ok hx
        · exact ⟨fun p hp => rep_ok hp, h.past, h.pen, h.pb, h.last, h.tb, h.full, h.h1⟩
  have e : S.erase w = (let S1 := (if w = 101 then S.setCells ((S.rowAt S.row).cells.take S.column ++ List.replicate (S.wide - S.column) blankCell)
    else if w = 98 then S.setCells (List.replicate (S.column + 1) blankCell ++ (S.rowAt S.row).cells.drop (S.column + 1))
    else if w = 107 then S.setCells (List.replicate S.wide blankCell)
    else { S with rows := List.replicate S.high (blankRow S.wide) })
    { (if w = 98 then S1 else S1.setGoes S1.row false) with full := false }) := rfl
  rw [e]
  generalize (if w = 101 then S.setCells ((S.rowAt S.row).cells.take S.column ++ List.replicate (S.wide - S.column) blankCell)
    else if w = 98 then S.setCells (List.replicate (S.column + 1) blankCell ++ (S.rowAt S.row).cells.drop (S.column + 1))
    else if w = 107 then S.setCells (List.replicate S.wide blankCell)
    else { S with rows := List.replicate S.high (blankRow S.wide) }) = S1 at h1
  dsimp only
  refine nofull_ok ?_
  split
  · exact h1
  · exact setGoes_ok h1 _ _
theorem small_ok (h : S.Ok) (w : Nat) : (S.small w).Ok := by
  unfold small
  by_cases c1 : w = 117
  · rw [if_pos c1]; exact stand_ok h _ _
  rw [if_neg c1]
  by_cases c2 : w = 100
  · rw [if_pos c2]; exact stand_ok h _ _
  rw [if_neg c2]
  by_cases c3 : w = 108
  · rw [if_pos c3]; exact stand_ok h _ _
  rw [if_neg c3]
  by_cases c4 : w = 114
  · rw [if_pos c4]; exact stand_ok h _ _
  rw [if_neg c4]
  by_cases c5 : w = 104
  · rw [if_pos c5]; exact stand_ok h _ _
  rw [if_neg c5]
  by_cases c6 : w = 110
  · rw [if_pos c6]; exact stand_ok (down_ok h) _ _
  rw [if_neg c6]
  by_cases c7 : w = 112
  · rw [if_pos c7]; exact stand_ok (up_ok h) _ _
  rw [if_neg c7]
  by_cases c8 : w = 101 ∨ w = 98 ∨ w = 107 ∨ w = 99
  · rw [if_pos c8]; exact erase_ok h _
  rw [if_neg c8]
  by_cases c9 : w = 115
  · rw [if_pos c9]; exact ⟨h.rows, h.past, h.pen, h.pen, h.last, h.tb, h.full, h.h1⟩
  rw [if_neg c9]
  by_cases c10 : w = 116
  · rw [if_pos c10]
    have h2 := stand_ok h S.putBy.1 S.putBy.2.1
    exact ⟨h2.rows, h2.past, h.pb, h2.pb, h2.last, h2.tb, h2.full, h2.h1⟩
  rw [if_neg c10]
  by_cases c11 : w = 122
  · rw [if_pos c11]; exact begin_ok h.h1 h.past
  rw [if_neg c11]
  exact h
theorem takeRows_ok (h : S.Ok) (n : Nat) : (S.takeRows n).Ok :=
  have h1 := roll_ok h S.row n
  ⟨h1.rows, h.past, h1.pen, h1.pb, h1.last, h1.tb, h1.full, h1.h1⟩
theorem shift_ok (h : S.Ok) (w many : Nat) : (S.shift w many).Ok := by
  have hr := rowAt_ok h S.row
  unfold shift
  dsimp only
  refine nofull_ok (setGoes_ok (setCells_ok h fun x hx => ?_) _ _)
  split at hx
  · rcases List.mem_append.mp hx with hx | hx
    · rcases List.mem_append.mp hx with hx | hx
      · exact hr x (List.mem_of_mem_take hx)
      · exact hr x (List.mem_of_mem_drop (List.mem_of_mem_drop hx))
    · exact repc_ok hx
  · rcases List.mem_append.mp hx with hx | hx
    · rcases List.mem_append.mp hx with hx | hx
      · exact hr x (List.mem_of_mem_take hx)
      · exact repc_ok hx
    · exact hr x (List.mem_of_mem_drop (List.mem_of_mem_take hx))
theorem putMany_ok {n : Nat} (hn : sgOk n) : ∀ (k : Nat) {S : Scr}, S.Ok → (putMany n k S).Ok
  | 0, _, h => h
  | k + 1, _, h => putMany_ok hn k (put_ok h hn)
theorem one_ok (h : S.Ok) (w n : Nat) : (S.one w n).Ok := by
  unfold one
  by_cases c1 : w = 67
  · rw [if_pos c1]
    split
    · rename_i hn; exact ⟨h.rows, h.past, ⟨hn, h.pen.2.1, h.pen.2.2⟩, h.pb, h.last, h.tb, h.full, h.h1⟩
    · exact h
  rw [if_neg c1]
  by_cases c2 : w = 66
  · rw [if_pos c2]
    split
    · rename_i hn; exact ⟨h.rows, h.past, ⟨h.pen.1, hn, h.pen.2.2⟩, h.pb, h.last, h.tb, h.full, h.h1⟩
    · exact h
  rw [if_neg c2]
  by_cases c3 : w = 77
  · rw [if_pos c3]
    split
    · rename_i hn; exact ⟨h.rows, h.past, ⟨h.pen.1, h.pen.2.1, hn⟩, h.pb, h.last, h.tb, h.full, h.h1⟩
    · exact h
  rw [if_neg c3]
  by_cases c4 : w = 88 ∨ w = 73
  · rw [if_pos c4]; exact shift_ok h _ _
  rw [if_neg c4]
  by_cases c5 : (w = 68 ∨ w = 78) ∧ S.top ≤ S.row ∧ S.row ≤ S.bottom
  · rw [if_pos c5]
    dsimp only
    split
    · exact stand_ok (takeRows_ok h _) _ _
    · exact stand_ok (rollDown_ok h _ _) _ _
  rw [if_neg c5]
  by_cases c6 : w = 74
  · rw [if_pos c6]
    split
    · rename_i l hl; exact putMany_ok (h.last l hl) _ h
    · exact h
  rw [if_neg c6]
  exact h
theorem great_ok (h : S.Ok) (w : Nat) (ns : List Nat) : (S.great w ns).Ok := by
  unfold great
  split
  · rename_i a b
    split
    · exact stand_ok h _ _
    · split
      · split
        · rename_i hab
          exact stand_ok (S := { S with top := a, bottom := b }) ⟨h.rows, h.past, h.pen, h.pb, h.last, hab.1, h.full, h.h1⟩ _ _
        · exact h
      · exact h
  · exact one_ok h _ _
  · exact h
theorem act_ok (h : S.Ok) {t : Tk} (ht : t.SgOk) : (S.act t).Ok := by
  cases t with
  | sign n => exact put_ok h ht
  | fin => exact stand_ok (down_ok h) _ _
  | act w ns =>
    show (if isSmall w then S.small w else S.great w ns).Ok
    split
    · exact small_ok h w
    · exact great_ok h w ns
theorem acts_ok : ∀ {ts : List Tk} {S : Scr}, S.Ok → (∀ t ∈ ts, t.SgOk) → (S.acts ts).Ok
  | [], _, h, _ => h
  | t :: ts, S, h, ht => acts_ok (ts := ts) (S := S.act t) (act_ok h (ht t List.mem_cons_self)) fun u hu => ht u (List.mem_cons_of_mem _ hu)
end Scr
theorem step_sg {p q : Pre} {n : Nat} {ts : List Tk} (e : p.step n = some (q, ts)) : ∀ t ∈ ts, t.SgOk := by
  have h0 : ∀ t ∈ ([] : List Tk), t.SgOk := fun t ht => (nomatch ht)
  cases p with
  | no => cases e
  | hat =>
    unfold Pre.step at e
    dsimp only at e
    split at e
    · cases e; intro t ht; rw [List.mem_singleton.mp ht]; exact ⟨rfl, by decide⟩
    · split at e
      · cases e; intro t ht; rw [List.mem_singleton.mp ht]; trivial
      · split at e
        · cases e; exact h0
        · cases e
  | cap g =>
    unfold Pre.step at e
    dsimp only at e
    split at e
    · cases e; exact h0
    · cases e
  | op g ps la =>
    unfold Pre.step at e
    dsimp only at e
    split at e
    · split at e
      · cases e; exact h0
      · cases e
    · split at e
      · split at e
        · cases e; exact h0
        · cases e
      · split at e
        · cases e; intro t ht; rw [List.mem_singleton.mp ht]; trivial
        · cases e
theorem plain_sg {n : Nat} (h : isSign n = true) : ∀ t ∈ (plain n).2, t.SgOk := by
  unfold plain
  split
  · exact fun t ht => (nomatch ht)
  · split
    · intro t ht; rw [List.mem_singleton.mp ht]; trivial
    · rename_i h10; intro t ht; rw [List.mem_singleton.mp ht]; exact ⟨h, h10⟩
theorem read_sg (r : Rdr) {n : Nat} (h : isSign n = true) : ∀ t ∈ (r.read n).2, t.SgOk := by
  unfold Rdr.read
  split
  · exact plain_sg h
  · split
    · rename_i p ts e; exact step_sg e
    · exact plain_sg h
theorem feed_sg : ∀ {l : List Nat} (r : Rdr), (∀ x ∈ l, isSign x = true) → ∀ t ∈ (r.feed l).2, t.SgOk
  | [], _, _ => fun t ht => (nomatch ht)
  | n :: l, r, h => fun t ht => by
    have ht' : t ∈ (r.read n).2 ++ ((r.read n).1.feed l).2 := ht
    rcases List.mem_append.mp ht' with h1 | h1
    · exact read_sg r (h n List.mem_cons_self) t h1
    · exact feed_sg (r.read n).1 (fun x hx => h x (List.mem_cons_of_mem _ hx)) t h1
namespace Scr
/-! ### the reader beside -/
def wr (S : Scr) (r : Rdr) : Scr := { S with rd := r }
variable (S : Scr) (r : Rdr)
theorem ite_wr {p : Prop} [Decidable p] (A B : Scr) : (if p then A else B).wr r = if p then A.wr r else B.wr r := by split <;> rfl
theorem setRow_wr (i : Nat) (p : PRow) : (S.wr r).setRow i p = (S.setRow i p).wr r := rfl
theorem setGoes_wr (i : Nat) (b : Bool) : (S.wr r).setGoes i b = (S.setGoes i b).wr r := rfl
theorem stand_wr (a b : Int) : (S.wr r).stand a b = (S.stand a b).wr r := rfl
theorem cutOff_wr (t : Nat) : (S.wr r).cutOff t = (S.cutOff t).wr r := by
  by_cases h : 1 ≤ t
  · unfold cutOff; rw [if_pos h, if_pos h]; rfl
  · unfold cutOff; rw [if_neg h, if_neg h]; rfl
theorem roll_wr (t n : Nat) : (S.wr r).roll t n = (S.roll t n).wr r := cutOff_wr (S.rolled t _) r t
theorem rollDown_wr (t n : Nat) : (S.wr r).rollDown t n = (S.rollDown t n).wr r := cutOff_wr (S.rolledDown t _) r t
theorem down_wr : (S.wr r).down = S.down.wr r := by
  unfold down
  rw [ite_wr, ite_wr, ← roll_wr]; rfl
theorem up_wr : (S.wr r).up = S.up.wr r := by
  unfold up
  rw [ite_wr, ite_wr, ← rollDown_wr]; rfl
theorem wrap_wr : (S.wr r).wrap = S.wrap.wr r := by
  unfold wrap
  rw [ite_wr]
  dsimp only
  have e : ((S.wr r).setGoes (S.wr r).row (decide ((S.wr r).row = (S.wr r).bottom) || decide ((S.wr r).row < (S.wr r).high - 1))).down = ((S.setGoes S.row (decide (S.row = S.bottom) || decide (S.row < S.high - 1))).down).wr r := down_wr (S.setGoes S.row _) r
  rw [e]; rfl
theorem type1_wr (n : Nat) : (S.wr r).type1 n = (S.type1 n).wr r := by
  unfold type1 next
  rw [ite_wr]; rfl
theorem put_wr (n : Nat) : (S.wr r).put n = (S.put n).wr r := by
  unfold put
  rw [wrap_wr, type1_wr]
theorem erase_wr (w : Nat) : (S.wr r).erase w = (S.erase w).wr r := by
  unfold erase
  dsimp only
  by_cases h1 : w = 101
  · simp only [if_pos h1]
    by_cases h : w = 98
    · simp only [if_pos h]; rfl
    · simp only [if_neg h]; rfl
  simp only [if_neg h1]
  by_cases h2 : w = 98
  · simp only [if_pos h2]; rfl
  simp only [if_neg h2]
  by_cases h3 : w = 107
  · simp only [if_pos h3]; rfl
  simp only [if_neg h3]; rfl
theorem small_wr (w : Nat) : (S.wr r).small w = (S.small w).wr r := by
  unfold small
  simp only [ite_wr]
  rw [down_wr, up_wr, erase_wr]; rfl
theorem takeRows_wr (n : Nat) : (S.wr r).takeRows n = (S.takeRows n).wr r := by
  unfold takeRows
  show { (S.wr r).roll S.row n with past := S.past } = _
  rw [roll_wr]; rfl
theorem shift_wr (w m : Nat) : (S.wr r).shift w m = (S.shift w m).wr r := rfl
theorem putMany_wr (n : Nat) : ∀ (k : Nat) (S : Scr), putMany n k (S.wr r) = (putMany n k S).wr r
  | 0, _ => rfl
  | k + 1, S => by
    show putMany n k ((S.wr r).put n) = (putMany n k (S.put n)).wr r
    rw [put_wr, putMany_wr n k]
theorem one_wr (w n : Nat) : (S.wr r).one w n = (S.one w n).wr r := by
  unfold one
  by_cases c1 : w = 67
  · rw [if_pos c1, if_pos c1, ite_wr]; rfl
  rw [if_neg c1, if_neg c1]
  by_cases c2 : w = 66
  · rw [if_pos c2, if_pos c2, ite_wr]; rfl
  rw [if_neg c2, if_neg c2]
  by_cases c3 : w = 77
  · rw [if_pos c3, if_pos c3, ite_wr]; rfl
  rw [if_neg c3, if_neg c3]
  by_cases c4 : w = 88 ∨ w = 73
  · rw [if_pos c4, if_pos c4]; rfl
  rw [if_neg c4, if_neg c4]
  by_cases c5 : (w = 68 ∨ w = 78) ∧ S.top ≤ S.row ∧ S.row ≤ S.bottom
  · have c5' : (w = 68 ∨ w = 78) ∧ (S.wr r).top ≤ (S.wr r).row ∧ (S.wr r).row ≤ (S.wr r).bottom := c5
    rw [if_pos c5, if_pos c5']
    dsimp only
    have e : (if w = 68 then (S.wr r).takeRows n else (S.wr r).rollDown (S.wr r).row n) = (if w = 68 then S.takeRows n else S.rollDown S.row n).wr r := by
      rw [ite_wr, ← takeRows_wr, ← rollDown_wr]; rfl
    rw [e]; rfl
  have c5' : ¬ ((w = 68 ∨ w = 78) ∧ (S.wr r).top ≤ (S.wr r).row ∧ (S.wr r).row ≤ (S.wr r).bottom) := c5
  rw [if_neg c5, if_neg c5']
  by_cases c6 : w = 74
  · rw [if_pos c6, if_pos c6]
    have e : (S.wr r).last = S.last := rfl
    rw [e]
    cases hl : S.last with
    | none => rfl
    | some l => exact putMany_wr r l _ S
  rw [if_neg c6, if_neg c6]
theorem great_wr (w : Nat) (ns : List Nat) : (S.wr r).great w ns = (S.great w ns).wr r := by
  unfold great
  split
  · rw [ite_wr, ite_wr, ite_wr]; rfl
  · exact one_wr S r _ _
  · rfl
theorem act_wr (t : Tk) : (S.wr r).act t = (S.act t).wr r := by
  cases t with
  | sign n => exact put_wr S r n
  | fin =>
    show (S.wr r).down.stand (S.wr r).down.row 0 = _
    rw [down_wr]; rfl
  | act w ns =>
    show (if isSmall w then (S.wr r).small w else (S.wr r).great w ns) = (if isSmall w then S.small w else S.great w ns).wr r
    rw [ite_wr, small_wr, great_wr]
theorem acts_wr (r : Rdr) : ∀ (ts : List Tk) (S : Scr), (S.wr r).acts ts = (S.acts ts).wr r
  | [], _ => rfl
  | t :: ts, S => by
    show ((S.wr r).act t).acts ts = ((S.act t).acts ts).wr r
    rw [act_wr, acts_wr r ts]
theorem acts_rd (ts : List Tk) : (S.acts ts).rd = S.rd := by
  have h : S.acts ts = (S.acts ts).wr S.rd := acts_wr S.rd ts S
  rw [h]; rfl
theorem acts_app (a b : List Tk) : S.acts (a ++ b) = (S.acts a).acts b := by
  unfold acts
  rw [List.foldl_append]
theorem acts_cons (t : Tk) (b : List Tk) : S.acts (t :: b) = (S.act t).acts b := rfl
theorem fed_eq (l : List Nat) : S.fed l = (S.acts (S.rd.feed l).2).wr (S.rd.feed l).1 := acts_wr _ _ S
theorem fed_rd (l : List Nat) : (S.fed l).rd = (S.rd.feed l).1 := by rw [fed_eq]; rfl
theorem fed_app (l m : List Nat) : S.fed (l ++ m) = (S.fed l).fed m := by
  rw [fed_eq (S.fed l), fed_rd, fed_eq S l, fed_eq S (l ++ m), acts_wr, feed_app]
  dsimp only
  rw [acts_app]; rfl
theorem fed_nil : S.fed [] = S := rfl
/-- a reader that has begun nothing: its text is done -/
theorem fed_text {k : Nat} {ts : List Tk} (h : S.rd = ⟨.no, k⟩) (hf : Rdr.feed ⟨.no, k⟩ (lawText ts) = (⟨.no, k⟩, ts)) : S.fed (lawText ts) = S.acts ts := by
  rw [fed_eq, h, hf]
  show (S.acts ts).wr ⟨.no, k⟩ = _
  rw [← h, ← acts_rd S ts]; rfl
theorem fed_ok {S : Scr} (h : S.Ok) {l : List Nat} (hl : ∀ x ∈ l, isSign x = true) : (S.fed l).Ok := by
  rw [fed_eq]
  have z := acts_ok h (feed_sg S.rd hl)
  exact ⟨z.rows, z.past, z.pen, z.pb, z.last, z.tb, z.full, z.h1⟩
theorem new_ok {w h m : Nat} (hh : 2 ≤ h) : (Scr.new w h m).Ok := begin_ok hh fun p hp => (nomatch hp)
/-! ### sizes stay -/
def dim (S : Scr) : Nat × Nat × Nat := (S.wide, S.high, S.most)
theorem ite_dim {p : Prop} [Decidable p] {A B : Scr} {d : Nat × Nat × Nat} (h1 : A.dim = d) (h2 : B.dim = d) : (if p then A else B).dim = d := by split <;> assumption
theorem cutOff_dim (t : Nat) : (S.cutOff t).dim = S.dim := by unfold cutOff; split <;> rfl
theorem roll_dim (t n : Nat) : (S.roll t n).dim = S.dim := cutOff_dim (S.rolled t _) t
theorem rollDown_dim (t n : Nat) : (S.rollDown t n).dim = S.dim := cutOff_dim (S.rolledDown t _) t
theorem down_dim : S.down.dim = S.dim := ite_dim (roll_dim S _ _) (ite_dim rfl rfl)
theorem up_dim : S.up.dim = S.dim := ite_dim (rollDown_dim S _ _) (ite_dim rfl rfl)
theorem wrap_dim : S.wrap.dim = S.dim := ite_dim (down_dim (S.setGoes S.row _)) rfl
theorem type1_dim (n : Nat) : (S.type1 n).dim = S.dim := ite_dim rfl rfl
theorem put_dim (n : Nat) : (S.put n).dim = S.dim := (type1_dim S.wrap n).trans (wrap_dim S)
theorem erase_dim (w : Nat) : (S.erase w).dim = S.dim := by
  have h1 : (if w = 101 then S.setCells ((S.rowAt S.row).cells.take S.column ++ List.replicate (S.wide - S.column) blankCell)
    else if w = 98 then S.setCells (List.replicate (S.column + 1) blankCell ++ (S.rowAt S.row).cells.drop (S.column + 1))
    else if w = 107 then S.setCells (List.replicate S.wide blankCell)
    else { S with rows := List.replicate S.high (blankRow S.wide) }).dim = S.dim := ite_dim rfl (ite_dim rfl (ite_dim rfl rfl))
  have e : S.erase w = (let S1 := (if w = 101 then S.setCells ((S.rowAt S.row).cells.take S.column ++ List.replicate (S.wide - S.column) blankCell)
    else if w = 98 then S.setCells (List.replicate (S.column + 1) blankCell ++ (S.rowAt S.row).cells.drop (S.column + 1))
    else if w = 107 then S.setCells (List.replicate S.wide blankCell)
    else { S with rows := List.replicate S.high (blankRow S.wide) })
    { (if w = 98 then S1 else S1.setGoes S1.row false) with full := false }) := rfl
  rw [e]
  generalize (if w = 101 then S.setCells ((S.rowAt S.row).cells.take S.column ++ List.replicate (S.wide - S.column) blankCell)
    else if w = 98 then S.setCells (List.replicate (S.column + 1) blankCell ++ (S.rowAt S.row).cells.drop (S.column + 1))
    else if w = 107 then S.setCells (List.replicate S.wide blankCell)
    else { S with rows := List.replicate S.high (blankRow S.wide) }) = S1 at h1
  dsimp only
  split
  · exact h1
  · exact h1
theorem small_dim (w : Nat) : (S.small w).dim = S.dim :=
  ite_dim rfl (ite_dim rfl (ite_dim rfl (ite_dim rfl (ite_dim rfl (ite_dim (down_dim S) (ite_dim (up_dim S) (ite_dim (erase_dim S w) (ite_dim rfl (ite_dim rfl (ite_dim rfl rfl))))))))))
theorem putMany_dim (n : Nat) : ∀ (k : Nat) (S : Scr), (putMany n k S).dim = S.dim
  | 0, _ => rfl
  | k + 1, S => (putMany_dim n k (S.put n)).trans (put_dim S n)
theorem takeRows_dim (n : Nat) : (S.takeRows n).dim = S.dim := roll_dim S S.row n
theorem one_dim (w n : Nat) : (S.one w n).dim = S.dim := by
  unfold one
  refine ite_dim (ite_dim rfl rfl) (ite_dim (ite_dim rfl rfl) (ite_dim (ite_dim rfl rfl) (ite_dim rfl (ite_dim ?_ (ite_dim ?_ rfl)))))
  · dsimp only
    split
    · exact takeRows_dim S n
    · exact rollDown_dim S _ _
  · split
    · exact putMany_dim _ _ S
    · rfl
theorem great_dim (w : Nat) (ns : List Nat) : (S.great w ns).dim = S.dim := by
  unfold great
  split
  · exact ite_dim rfl (ite_dim (ite_dim rfl rfl) rfl)
  · exact one_dim S _ _
  · rfl
theorem act_dim (t : Tk) : (S.act t).dim = S.dim := by
  cases t with
  | sign n => exact put_dim S n
  | fin => exact down_dim S
  | act w ns => exact ite_dim (small_dim S w) (great_dim S w ns)
theorem acts_dim : ∀ (ts : List Tk) (S : Scr), (S.acts ts).dim = S.dim
  | [], _ => rfl
  | t :: ts, S => (acts_dim ts (S.act t)).trans (act_dim S t)
theorem fed_dim (l : List Nat) : (S.fed l).dim = S.dim := acts_dim _ { S with rd := (S.rd.feed l).1 }
theorem dim_wide {S S' : Scr} (h : S.dim = S'.dim) : S.wide = S'.wide := congrArg (·.1) h
theorem dim_high {S S' : Scr} (h : S.dim = S'.dim) : S.high = S'.high := congrArg (·.2.1) h
theorem dim_most {S S' : Scr} (h : S.dim = S'.dim) : S.most = S'.most := congrArg (·.2.2) h
end Scr
/-! ### what is told can be compared -/
theorem sg_lt {n : Nat} (h : sgOk n) : n < 1114112 := by
  have := h.1
  unfold isSign at this
  simp at this
  omega
theorem penData_sh (p : Pen) : Sh 1 (penData p) := .tup fun d hd => by
  rcases List.mem_cons.mp hd with rfl | hd
  · exact .int
  rcases List.mem_cons.mp hd with rfl | hd
  · exact .int
  rw [List.mem_singleton.mp hd]; exact .int
theorem Cell.Ok.sh {x : Cell} (h : x.Ok) : Sh 2 x.data := .tup fun d hd => by
  rcases List.mem_cons.mp hd with rfl | hd
  · exact .str fun y hy => by rw [List.mem_singleton.mp hy]; exact sg_lt h.1
  rw [List.mem_singleton.mp hd]; exact penData_sh _
theorem cells_sh {l : List Cell} (h : ∀ x ∈ l, x.Ok) : Sh 3 (.list (l.map Cell.data)) := .lst fun d hd => by
  obtain ⟨x, hx, rfl⟩ := List.mem_map.mp hd
  exact (h x hx).sh
theorem pageD_sh {l : List PRow} (h : ∀ p ∈ l, p.Ok) : Sh 4 (.list (l.map fun p => .list (p.cells.map Cell.data))) := .lst fun d hd => by
  obtain ⟨p, hp, rfl⟩ := List.mem_map.mp hd
  exact cells_sh (h p hp)
theorem cursorD_sh (S : Scr) : Sh 1 S.cursorD := .tup fun d hd => by
  rcases List.mem_cons.mp hd with rfl | hd
  · exact .int
  rcases List.mem_cons.mp hd with rfl | hd
  · exact .int
  rw [List.mem_singleton.mp hd]; exact .bl
theorem stateD_sh (S : Scr) : Sh 2 S.stateD := .tup fun d hd => by
  rcases List.mem_cons.mp hd with rfl | hd
  · exact (penData_sh _).mono (by decide)
  rw [List.mem_singleton.mp hd]
  exact .tup fun d hd => by
    rcases List.mem_cons.mp hd with rfl | hd
    · exact .int
    rw [List.mem_singleton.mp hd]; exact .int
end Ss
/-! ## Screens: they stay whole -/
namespace Ss
open PySem PySem.Spec PyProof.Rows L2
namespace Scr
variable {S : Scr}
theorem rowAt_len (w : S.Wf) {i : Nat} (h : i < S.high) : (S.rowAt i).cells.length = S.wide := w.rw _ (getD_mem (by rw [w.rl]; exact h))
theorem setRow_wf (w : S.Wf) (i : Nat) {p : PRow} (hp : i < S.high → p.cells.length = S.wide) : (S.setRow i p).Wf :=
  ⟨w.w1, w.w2, w.h1, w.h2, w.m, by show (S.rows.set i p).length = S.high; rw [List.length_set]; exact w.rl, fun q hq => by
    by_cases hi : i < S.high
    · rcases List.mem_or_eq_of_mem_set hq with hq | rfl
      · exact w.rw q hq
      · exact hp hi
    · have e : S.rows.set i p = S.rows := List.set_eq_of_length_le (by rw [w.rl]; omega)
      have hq' : q ∈ S.rows.set i p := hq
      rw [e] at hq'
      exact w.rw q hq', w.pl, w.pw, w.row, w.column, w.tb, w.bh, w.rd⟩
theorem setGoes_wf (w : S.Wf) (i : Nat) (b : Bool) : (S.setGoes i b).Wf := setRow_wf w i fun h => rowAt_len w h
theorem cutOff_wf (w : S.Wf) (t : Nat) : (S.cutOff t).Wf := by
  unfold cutOff
  split
  · exact setGoes_wf (setGoes_wf w _ _) _ _
  · exact setGoes_wf w _ _
theorem roll_wf (w : S.Wf) {t : Nat} (ht : t ≤ S.bottom) (n : Nat) : (S.roll t n).Wf := cutOff_wf (rolled_wf w ht (Nat.min_le_right _ _)) _
theorem rollDown_wf (w : S.Wf) {t : Nat} (ht : t ≤ S.bottom) (n : Nat) : (S.rollDown t n).Wf := cutOff_wf (rolledDown_wf w ht (Nat.min_le_right _ _)) _
theorem down_wf (w : S.Wf) : S.down.Wf := by
  unfold down
  split
  · exact roll_wf w w.tb _
  · split
    · exact ⟨w.w1, w.w2, w.h1, w.h2, w.m, w.rl, w.rw, w.pl, w.pw, by show S.row + 1 < S.high; omega, w.column, w.tb, w.bh, w.rd⟩
    · exact w
theorem up_wf (w : S.Wf) : S.up.Wf := by
  unfold up
  split
  · exact rollDown_wf w w.tb _
  · split
    · exact ⟨w.w1, w.w2, w.h1, w.h2, w.m, w.rl, w.rw, w.pl, w.pw, by have := w.row; show S.row - 1 < S.high; omega, w.column, w.tb, w.bh, w.rd⟩
    · exact w
theorem wrap_wf (w : S.Wf) : S.wrap.Wf := by
  unfold wrap
  split
  · exact stand_wf (down_wf (setGoes_wf w _ _)) _ _
  · exact w
theorem put_wf (w : S.Wf) (n : Nat) : (S.put n).Wf := type1_wf (wrap_wf w) n
theorem setCells_wf (w : S.Wf) {l : List Cell} (hl : l.length = S.wide) : (S.setCells l).Wf := setRow_wf w _ fun _ => hl
theorem nofull_wf (w : S.Wf) : ({ S with full := false } : Scr).Wf := ⟨w.w1, w.w2, w.h1, w.h2, w.m, w.rl, w.rw, w.pl, w.pw, w.row, w.column, w.tb, w.bh, w.rd⟩
theorem begin_wf (w : S.Wf) : S.begin.Wf :=
  ⟨w.w1, w.w2, w.h1, w.h2, w.m, List.length_replicate, fun p hp => by rw [(List.mem_replicate.mp hp).2]; exact List.length_replicate, w.pl, w.pw, by show 0 < S.high; have := w.h1; omega, by show 0 < S.wide; have := w.w1; omega, Nat.zero_le _, by show S.high - 1 < S.high; have := w.h1; omega, w.rd⟩
theorem new_wf {wd h m : Nat} (hw : 2 ≤ wd ∧ wd ≤ 60) (hh : 2 ≤ h ∧ h ≤ 40) (hm : m ≤ 200) : (Scr.new wd h m).Wf :=
  ⟨hw.1, hw.2, hh.1, hh.2, hm, List.length_replicate, fun p hp => by rw [(List.mem_replicate.mp hp).2]; exact List.length_replicate, Nat.zero_le _, fun p hp => (nomatch hp), by show 0 < h; omega, by show 0 < wd; omega, Nat.zero_le _, by show h - 1 < h; omega, trivial⟩
theorem erase_wf (w : S.Wf) (x : Nat) : (S.erase x).Wf := by
  have hl := rowAt_len w w.row
  have hc := w.column
  have h1 : (if x = 101 then S.setCells ((S.rowAt S.row).cells.take S.column ++ List.replicate (S.wide - S.column) blankCell)
    else if x = 98 then S.setCells (List.replicate (S.column + 1) blankCell ++ (S.rowAt S.row).cells.drop (S.column + 1))
    else if x = 107 then S.setCells (List.replicate S.wide blankCell)
    else { S with rows := List.replicate S.high (blankRow S.wide) }).Wf := by
    split
    · exact setCells_wf w (by rw [List.length_append, List.length_take, List.length_replicate, hl]; omega)
    · split
      · exact setCells_wf w (by rw [List.length_append, List.length_drop, List.length_replicate, hl]; omega)
      · split
        · exact setCells_wf w List.length_replicate
        · exact ⟨w.w1, w.w2, w.h1, w.h2, w.m, List.length_replicate, fun p hp => by rw [(List.mem_replicate.mp hp).2]; exact List.length_replicate, w.pl, w.pw, w.row, w.column, w.tb, w.bh, w.rd⟩
  have e : S.erase x = (let S1 := (if x = 101 then S.setCells ((S.rowAt S.row).cells.take S.column ++ List.replicate (S.wide - S.column) blankCell)
    else if x = 98 then S.setCells (List.replicate (S.column + 1) blankCell ++ (S.rowAt S.row).cells.drop (S.column + 1))
    else if x = 107 then S.setCells (List.replicate S.wide blankCell)
    else { S with rows := List.replicate S.high (blankRow S.wide) })
    { (if x = 98 then S1 else S1.setGoes S1.row false) with full := false }) := rfl
  rw [e]
  generalize (if x = 101 then S.setCells ((S.rowAt S.row).cells.take S.column ++ List.replicate (S.wide - S.column) blankCell)
    else if x = 98 then S.setCells (List.replicate (S.column + 1) blankCell ++ (S.rowAt S.row).cells.drop (S.column + 1))
    else if x = 107 then S.setCells (List.replicate S.wide blankCell)
    else { S with rows := List.replicate S.high (blankRow S.wide) }) = S1 at h1
  dsimp only
  refine nofull_wf ?_
  split
  · exact h1
  · exact setGoes_wf h1 _ _
theorem ite_wf {p : Prop} [Decidable p] {A B : Scr} (h1 : p → A.Wf) (h2 : ¬ p → B.Wf) : (if p then A else B).Wf := by
  by_cases h : p
  · rw [if_pos h]; exact h1 h
  · rw [if_neg h]; exact h2 h
theorem small_wf (w : S.Wf) (x : Nat) : (S.small x).Wf := by
  unfold small
  refine ite_wf (fun _ => stand_wf w _ _) fun _ => ite_wf (fun _ => stand_wf w _ _) fun _ => ite_wf (fun _ => stand_wf w _ _) fun _ => ite_wf (fun _ => stand_wf w _ _) fun _ => ite_wf (fun _ => stand_wf w _ _) fun _ =>
    ite_wf (fun _ => stand_wf (down_wf w) _ _) fun _ => ite_wf (fun _ => stand_wf (up_wf w) _ _) fun _ => ite_wf (fun _ => erase_wf w _) fun _ => ite_wf (fun _ => ?_) fun _ => ite_wf (fun _ => ?_) fun _ => ite_wf (fun _ => begin_wf w) fun _ => w
  · exact ⟨w.w1, w.w2, w.h1, w.h2, w.m, w.rl, w.rw, w.pl, w.pw, w.row, w.column, w.tb, w.bh, w.rd⟩
  · have h := stand_wf w S.putBy.1 S.putBy.2.1
    exact ⟨h.w1, h.w2, h.h1, h.h2, h.m, h.rl, h.rw, h.pl, h.pw, h.row, h.column, h.tb, h.bh, h.rd⟩
theorem takeRows_wf (w : S.Wf) (h : S.row ≤ S.bottom) (n : Nat) : (S.takeRows n).Wf :=
  have h := roll_wf w h n
  have hm : (S.roll S.row n).most = S.most := dim_most (roll_dim S _ _)
  have hw : (S.roll S.row n).wide = S.wide := dim_wide (roll_dim S _ _)
  ⟨h.w1, h.w2, h.h1, h.h2, h.m, h.rl, h.rw, by show S.past.length ≤ (S.roll S.row n).most; rw [hm]; exact w.pl, fun p hp => by show _ = (S.roll S.row n).wide; rw [hw]; exact w.pw p hp, h.row, h.column, h.tb, h.bh, h.rd⟩
theorem shift_wf (w : S.Wf) (x : Nat) {many : Nat} (hm : many ≤ S.wide - S.column) : (S.shift x many).Wf := by
  have hl := rowAt_len w w.row
  have hc := w.column
  unfold shift
  dsimp only
  refine nofull_wf (setGoes_wf (setCells_wf w ?_) _ _)
  split
  · rw [List.length_append, List.length_append, List.length_take, List.length_drop, List.length_drop, List.length_replicate, hl]; omega
  · rw [List.length_append, List.length_append, List.length_take, List.length_take, List.length_drop, List.length_replicate, hl]; omega
theorem putMany_wf (n : Nat) : ∀ (k : Nat) {S : Scr}, S.Wf → (putMany n k S).Wf
  | 0, _, w => w
  | k + 1, _, w => putMany_wf n k (put_wf w n)
theorem pen_wf (w : S.Wf) (p : Pen) : ({ S with pen := p } : Scr).Wf := ⟨w.w1, w.w2, w.h1, w.h2, w.m, w.rl, w.rw, w.pl, w.pw, w.row, w.column, w.tb, w.bh, w.rd⟩
theorem one_wf (w : S.Wf) (x n : Nat) : (S.one x n).Wf := by
  unfold one
  refine ite_wf (fun _ => ite_wf (fun _ => pen_wf w _) fun _ => w) fun _ => ite_wf (fun _ => ite_wf (fun _ => pen_wf w _) fun _ => w) fun _ => ite_wf (fun _ => ite_wf (fun _ => pen_wf w _) fun _ => w) fun _ =>
    ite_wf (fun _ => shift_wf w _ (Nat.min_le_right _ _)) fun _ => ite_wf (fun h => ?_) fun _ => ite_wf (fun _ => ?_) fun _ => w
  · dsimp only
    exact stand_wf (ite_wf (fun _ => takeRows_wf w h.2.2 _) fun _ => rollDown_wf w h.2.2 _) _ _
  · split
    · exact putMany_wf _ _ w
    · exact w
theorem great_wf (w : S.Wf) (x : Nat) (ns : List Nat) : (S.great x ns).Wf := by
  unfold great
  split
  · rename_i a b
    refine ite_wf (fun _ => stand_wf w _ _) fun _ => ite_wf (fun _ => ite_wf (fun h => ?_) fun _ => w) fun _ => w
    exact stand_wf (S := { S with top := a, bottom := b }) ⟨w.w1, w.w2, w.h1, w.h2, w.m, w.rl, w.rw, w.pl, w.pw, w.row, w.column, Nat.le_of_lt h.1, h.2, w.rd⟩ _ _
  · exact one_wf w _ _
  · exact w
theorem act_wf (w : S.Wf) (t : Tk) : (S.act t).Wf := by
  cases t with
  | sign n => exact put_wf w n
  | fin => exact stand_wf (down_wf w) _ _
  | act x ns => exact ite_wf (fun _ => small_wf w x) fun _ => great_wf w x ns
theorem acts_wf : ∀ (ts : List Tk) {S : Scr}, S.Wf → (S.acts ts).Wf
  | [], _, w => w
  | t :: ts, _, w => acts_wf ts (act_wf w t)
end Scr
end Ss
/-! ## What the laws share -/
namespace Ss
open PySem PySem.Spec PyProof.Rows L2
/-- a bound of the script's cells -/
@[irreducible] def bigA : Nat := 2 ^ 1048576
theorem bigA_eq : bigA = 2 ^ 1048576 := by unfold bigA; rfl
theorem add_lt_pow {x y e : Nat} (hx : x < 2 ^ e) (hy : y < 2 ^ 40) (h : 40 ≤ e) : x + y < 2 ^ (e + 1) := by
  have := Nat.pow_le_pow_right (show 0 < 2 by decide) h
  rw [Nat.pow_succ]; omega
theorem cell_big {ns : List Int} {k : Nat} (h : ∀ n ∈ ns, n.natAbs < bigA) (hk : k ≤ 1000) : (cellOf ns k).natAbs < bigB := by
  unfold cellOf
  split
  · refine big_of (k := 60) ?_ (by decide)
    have : ((k : Int) * 7919).natAbs = k * 7919 := by rw [Int.natAbs_mul, Int.natAbs_natCast]; rfl
    rw [this]; omega
  · rename_i hn
    have h1 : (ns.getD (k % ns.length) 0).natAbs < bigA := by
      have hlt : k % ns.length < ns.length := Nat.mod_lt _ (List.length_pos_iff.mpr hn)
      exact h _ (getD_mem hlt)
    have h2 : (((k / ns.length : Nat) : Int) * 104729).natAbs < 2 ^ 40 := by
      have : (((k / ns.length : Nat) : Int) * 104729).natAbs = k / ns.length * 104729 := by rw [Int.natAbs_mul, Int.natAbs_natCast]; rfl
      rw [this]
      have := Nat.div_le_self k ns.length
      omega
    refine Nat.lt_of_le_of_lt (Int.natAbs_add_le _ _) ?_
    rw [bigB_eq]
    have h1 := bigA_eq ▸ h1
    generalize hx : (ns.getD (k % ns.length) 0).natAbs = x at h1
    generalize hy : (((k / ns.length : Nat) : Int) * 104729).natAbs = y at h2
    exact Nat.lt_of_lt_of_le (add_lt_pow h1 h2 (by decide)) (Nat.pow_le_pow_right (by decide) (by decide))
theorem cell_bit {z : Int} (h : Builtin.Int.intBits z ≤ 1048576) : z.natAbs < bigA := by
  rw [bigA_eq]
  unfold Builtin.Int.intBits at h
  by_cases h0 : z = 0
  · subst h0; exact Nat.pow_pos (by decide)
  · rw [if_neg (by simpa using h0)] at h
    exact (Nat.log2_lt (fun e => h0 (Int.natAbs_eq_zero.mp e))).mp (Nat.lt_of_succ_le h)
theorem l_slTo {K : PySem.W.Frag} {H : Hp} {Q : VK} {l : List Nat} {n : Nat} (hl : l.length ≤ 1000000) (h : Q (.str (T (l.take n))) H) : uSl K (.str (T l)) none (some (n : Int)) H Q := l_slX hl (by rw [cutL_to]; exact h)
theorem l_slFrom {K : PySem.W.Frag} {H : Hp} {Q : VK} {l : List Nat} {n : Nat} (hl : l.length ≤ 1000000) (h : Q (.str (T (l.drop n))) H) : uSl K (.str (T l)) (some (n : Int)) none H Q := l_slX hl (by rw [cutL_from]; exact h)
def sp_law (c : Ctx) : Sp := fun vs H Q _ => ∃ (a : Addr) (ns : List Int) (F : Hp), vs = [.ref a] ∧ SqL c.K F a (ns.map V.int) ∧ ns.length ≤ 63 ∧ (∀ n ∈ ns, n.natAbs < bigA) ∧ LamX.Tabs c.tabs F ∧ Hold F [] H ∧ ∀ H', Q (.bl true) H'
theorem okText_of {l : List Nat} (h : ∀ x ∈ l, isSign x = true) (hl : l.length ≤ 4000) : okText (.str (T l)) = true := by
  show (decide ((T l).length ≤ 4000) && (T l).cps.toList.all isSign) = true
  rw [T_len, T_list, decide_eq_true hl, List.all_eq_true.mpr h]; rfl
theorem okText_inv {l : List Nat} (h : okText (.str (T l)) = true) : (∀ x ∈ l, isSign x = true) ∧ l.length ≤ 4000 := by
  have h' : (decide ((T l).length ≤ 4000) && (T l).cps.toList.all isSign) = true := h
  rw [T_len, T_list, Bool.and_eq_true, decide_eq_true_eq, List.all_eq_true] at h'
  exact ⟨h'.2, h'.1⟩
theorem row_signs (m many : Nat) : ∀ x ∈ lawText (lawRow m many), isSign x = true := lawText_signs (row_good m many)
theorem okRow {m many : Nat} (h : many ≤ 100) : okText (.str (T (lawText (lawRow m many)))) = true := okText_of (row_signs m many) (by have := row_text_len m many; omega)
section
variable {c : Ctx} {F H : Hp} {s s' : Addr} {C C' : ScrC} {S S' : Scr} {L M : List (Addr × HO)}
theorem scrL_split : scrL c s C S L = scrL c s C S [] ++ L := by
  show _ :: _ :: _ = _ :: _ :: _
  rw [List.append_nil]; rfl
theorem scrL_app : scrL c s C S L ++ M = scrL c s C S (L ++ M) := by
  show _ :: _ :: ((ownR c C.rows ++ L) ++ M) = _ :: _ :: _
  rw [List.append_assoc]
theorem scrL_swap (W : Hold F (scrL c s C S (scrL c s' C' S' L)) H) : Hold F (scrL c s' C' S' (scrL c s C S L)) H := by
  refine W.perm ?_
  rw [scrL_split, scrL_split (L := L), scrL_split (s := s') (L := scrL c s C S L), scrL_split (s := s) (L := L)]
  exact List.perm_append_comm_assoc _ _ _
theorem scrL_out (x : Addr × HO) : List.Perm (x :: scrL c s C S L) (scrL c s C S (x :: L)) := by
  rw [scrL_split, scrL_split (L := x :: L)]
  exact List.perm_middle.symm
theorem sp_feed_ok {l : List Nat} {Q : VK} {E : XK} (A : ScrAt c F C S) (W : Hold F (scrL c s C S L) H) (ok : okText (.str (T l)) = true) (kk : ScrTo c s F L (S.fed l) Q) : sp_Screen_feed c [.ref s, .str (T l)] H Q E :=
  ⟨s, C, S, _, F, L, rfl, .inl ⟨l, rfl, Nat.le_trans (okText_inv ok).2 (by decide)⟩, A, W, fun l' e _ => by cases T_inj.mp (V.str.inj e); exact kk, fun z => absurd ok (by rw [z]; decide)⟩
end
theorem sizeOk_nat {w h m : Nat} (hw : 2 ≤ w ∧ w ≤ 60) (hh : 2 ≤ h ∧ h ≤ 40) (hm : m ≤ 200) : sizeOk (.int (w : Nat)) (.int (h : Nat)) (.int (m : Nat)) = true := by
  have a1 : cntOk (.int (w : Nat)) 2 60 = true := cntOk_nat (lo := 2) (hi := 60) hw.1 hw.2
  have a2 : cntOk (.int (h : Nat)) 2 40 = true := cntOk_nat (lo := 2) (hi := 40) hh.1 hh.2
  have a3 : cntOk (.int (m : Nat)) 0 200 = true := cntOk_nat (lo := 0) (hi := 200) (Nat.zero_le _) hm
  unfold sizeOk
  rw [a1, a2, a3]; rfl
theorem nat_inj {a b : Nat} (e : V.int (a : Nat) = V.int (b : Nat)) : b = a := by injection e with e; omega
/-- a good screen is made -/
theorem x_newScreen {c : Ctx} {F H : Hp} {L : List (Addr × HO)} {Q : VK} {E : XK} {w h m : Nat} {z : Int} (ez : z = (m : Nat)) (W : Hold F L H) (hw : 2 ≤ w ∧ w ≤ 60) (hh : 2 ≤ h ∧ h ≤ 40) (hm : m ≤ 200)
    (kk : ∀ s C F' H', Same F F' → ScrAt c F' C (Scr.new w h m) → Hold F' (scrL c s C (Scr.new w h m) L) H' → Q (.ref s) H') : aN c.cScreen (sp_Screen_init c) E [.int (w : Nat), .int (h : Nat), .int z] H Q := by
  subst ez
  refine x_an W fun s dx H2 W2 => ?_
  refine ⟨s, dx, _, _, _, F, L, rfl, .nat, .nat, .nat, W2, fun w' h' m' e1 e2 e3 _ _ _ C F3 H3 s3 A3 W3 => ⟨rfl, ?_⟩, fun z => absurd z (by rw [sizeOk_nat hw hh hm]; decide)⟩
  have a1 := nat_inj e1
  have a2 := nat_inj e2
  have a3 := nat_inj e3
  subst a1 a2 a3
  exact kk s C F3 H3 s3 A3 W3
theorem x_par2 {v w : V} {R : V → V → Prop} (h : R v w) : ∃ v' w', [v, w] = [v', w'] ∧ R v' w' := ⟨v, w, rfl, h⟩
theorem two_of {α : Type} {ys : List α} (h : ys.length = 2) : ∃ a b, ys = [a, b] := by
  match ys, h with
  | [a, b], _ => exact ⟨a, b, rfl⟩
theorem rstrip_mem {l : List Nat} {x : Nat} (h : x ∈ rstripL l) : x ∈ l := by
  have h1 : x ∈ l.reverse.dropWhile (· == 32) := List.mem_reverse.mp h
  exact List.mem_reverse.mp ((List.dropWhile_sublist _).subset h1)
theorem texts_sh {l : List PRow} (h : ∀ p ∈ l, p.Ok) : Sh 1 (textsD l) := .lst fun d hd => by
  obtain ⟨p, hp, rfl⟩ := List.mem_map.mp hd
  refine .str fun x hx => ?_
  obtain ⟨y, hy, rfl⟩ := List.mem_map.mp (rstrip_mem hx)
  exact sg_lt (h p hp y hy).1
end Ss
/-! ## Screens: what rolled away beside; texts that are whole -/
namespace Ss
open PySem PySem.Spec PyProof.Rows L2
namespace Scr
def wp (S : Scr) (q : List PRow) : Scr := { S with past := q }
theorem cutOff_wp (S : Scr) (q : List PRow) (t : Nat) : (S.wp q).cutOff t = (S.cutOff t).wp q := by
  by_cases h : 1 ≤ t
  · unfold cutOff; rw [if_pos h, if_pos h]; rfl
  · unfold cutOff; rw [if_neg h, if_neg h]; rfl
theorem roll_wp (S : Scr) (q : List PRow) (t n : Nat) : ∃ q', (S.wp q).roll t n = (S.roll t n).wp q' := ⟨_, cutOff_wp (S.rolled t (min n (S.bottom + 1 - t))) ((S.wp q).rolled t (min n (S.bottom + 1 - t))).past t⟩
theorem rollDown_wp (S : Scr) (q : List PRow) (t n : Nat) : (S.wp q).rollDown t n = (S.rollDown t n).wp q := cutOff_wp (S.rolledDown t _) q t
theorem down_wp (S : Scr) (q : List PRow) : ∃ q', (S.wp q).down = S.down.wp q' := by
  unfold down
  by_cases h : S.row = S.bottom
  · rw [if_pos h, if_pos (show (S.wp q).row = (S.wp q).bottom from h)]; exact roll_wp S q S.top 1
  · rw [if_neg h, if_neg (show ¬ (S.wp q).row = (S.wp q).bottom from h)]
    by_cases h2 : S.row < S.high - 1
    · rw [if_pos h2, if_pos (show (S.wp q).row < (S.wp q).high - 1 from h2)]; exact ⟨q, rfl⟩
    · rw [if_neg h2, if_neg (show ¬ (S.wp q).row < (S.wp q).high - 1 from h2)]; exact ⟨q, rfl⟩
theorem up_wp (S : Scr) (q : List PRow) : (S.wp q).up = S.up.wp q := by
  unfold up
  by_cases h : S.row = S.top
  · rw [if_pos h, if_pos (show (S.wp q).row = (S.wp q).top from h)]; exact rollDown_wp S q S.top 1
  · rw [if_neg h, if_neg (show ¬ (S.wp q).row = (S.wp q).top from h)]
    by_cases h2 : 0 < S.row
    · rw [if_pos h2, if_pos (show 0 < (S.wp q).row from h2)]; rfl
    · rw [if_neg h2, if_neg (show ¬ 0 < (S.wp q).row from h2)]
theorem wrap_wp (S : Scr) (q : List PRow) : ∃ q', (S.wp q).wrap = S.wrap.wp q' := by
  unfold wrap
  by_cases h : S.full = true
  · rw [if_pos h, if_pos (show (S.wp q).full = true from h)]
    dsimp only
    obtain ⟨q', e⟩ := down_wp (S.setGoes S.row (decide (S.row = S.bottom) || decide (S.row < S.high - 1))) q
    have e' : ((S.wp q).setGoes (S.wp q).row (decide ((S.wp q).row = (S.wp q).bottom) || decide ((S.wp q).row < (S.wp q).high - 1))).down = ((S.setGoes S.row (decide (S.row = S.bottom) || decide (S.row < S.high - 1))).down).wp q' := e
    rw [e']; exact ⟨q', rfl⟩
  · rw [if_neg h, if_neg (show ¬ (S.wp q).full = true from h)]; exact ⟨q, rfl⟩
theorem ite_wp1 {p : Prop} [Decidable p] {A B A' B' : Scr} {q : List PRow} (h1 : A' = A.wp q) (h2 : B' = B.wp q) : (if p then A' else B') = (if p then A else B).wp q := by
  by_cases h : p
  · rw [if_pos h, if_pos h]; exact h1
  · rw [if_neg h, if_neg h]; exact h2
theorem type1_wp (S : Scr) (q : List PRow) (n : Nat) : (S.wp q).type1 n = (S.type1 n).wp q := by
  exact ite_wp1 rfl rfl
theorem put_wp (S : Scr) (q : List PRow) (n : Nat) : ∃ q', (S.wp q).put n = (S.put n).wp q' := by
  obtain ⟨q', e⟩ := wrap_wp S q
  unfold put
  rw [e, type1_wp]; exact ⟨q', rfl⟩
theorem erase_wp (S : Scr) (q : List PRow) (w : Nat) : (S.wp q).erase w = (S.erase w).wp q := by
  unfold erase
  dsimp only
  by_cases h1 : w = 101
  · simp only [if_pos h1]
    by_cases h : w = 98
    · simp only [if_pos h]; rfl
    · simp only [if_neg h]; rfl
  simp only [if_neg h1]
  by_cases h2 : w = 98
  · simp only [if_pos h2]; rfl
  simp only [if_neg h2]
  by_cases h3 : w = 107
  · simp only [if_pos h3]; rfl
  simp only [if_neg h3]; rfl
theorem ite_wp {p : Prop} [Decidable p] {A B A' B' : Scr} (h1 : ∃ q', A' = A.wp q') (h2 : ∃ q', B' = B.wp q') : ∃ q', (if p then A' else B') = (if p then A else B).wp q' := by
  by_cases h : p
  · rw [if_pos h, if_pos h]; exact h1
  · rw [if_neg h, if_neg h]; exact h2
theorem small_wp (S : Scr) (q : List PRow) (w : Nat) : ∃ q', (S.wp q).small w = (S.small w).wp q' := by
  obtain ⟨q1, e1⟩ := down_wp S q
  unfold small
  refine ite_wp ⟨q, rfl⟩ (ite_wp ⟨q, rfl⟩ (ite_wp ⟨q, rfl⟩ (ite_wp ⟨q, rfl⟩ (ite_wp ⟨q, rfl⟩ (ite_wp ⟨q1, ?_⟩ (ite_wp ⟨q, ?_⟩ (ite_wp ⟨q, erase_wp S q w⟩ (ite_wp ⟨q, rfl⟩ (ite_wp ⟨q, rfl⟩ (ite_wp ⟨q, rfl⟩ ⟨q, rfl⟩))))))))))
  · rw [e1]; rfl
  · rw [up_wp]; rfl
theorem takeRows_wp (S : Scr) (q : List PRow) (n : Nat) : (S.wp q).takeRows n = (S.takeRows n).wp q := by
  obtain ⟨q', e⟩ := roll_wp S q S.row n
  unfold takeRows
  show { (S.wp q).roll S.row n with past := q } = _
  rw [e]; rfl
theorem putMany_wp (n : Nat) : ∀ (k : Nat) (S : Scr) (q : List PRow), ∃ q', putMany n k (S.wp q) = (putMany n k S).wp q'
  | 0, _, q => ⟨q, rfl⟩
  | k + 1, S, q => by
    obtain ⟨q1, e⟩ := put_wp S q n
    show ∃ q', putMany n k ((S.wp q).put n) = (putMany n k (S.put n)).wp q'
    rw [e]
    exact putMany_wp n k (S.put n) q1
theorem one_wp (S : Scr) (q : List PRow) (w n : Nat) : ∃ q', (S.wp q).one w n = (S.one w n).wp q' := by
  unfold one
  refine ite_wp (ite_wp ⟨q, rfl⟩ ⟨q, rfl⟩) (ite_wp (ite_wp ⟨q, rfl⟩ ⟨q, rfl⟩) (ite_wp (ite_wp ⟨q, rfl⟩ ⟨q, rfl⟩) (ite_wp ⟨q, rfl⟩ (ite_wp ?_ (ite_wp ?_ ⟨q, rfl⟩)))))
  · dsimp only
    by_cases h : w = 68
    · simp only [if_pos h]
      rw [takeRows_wp]; exact ⟨q, rfl⟩
    · simp only [if_neg h]
      have e : (S.wp q).rollDown (S.wp q).row n = (S.rollDown S.row n).wp q := rollDown_wp S q S.row n
      rw [e]; exact ⟨q, rfl⟩
  · have e : (S.wp q).last = S.last := rfl
    rw [e]
    cases hl : S.last with
    | none => exact ⟨q, rfl⟩
    | some l => exact putMany_wp l _ S q
theorem great_wp (S : Scr) (q : List PRow) (w : Nat) (ns : List Nat) : ∃ q', (S.wp q).great w ns = (S.great w ns).wp q' := by
  unfold great
  split
  · exact ite_wp ⟨q, rfl⟩ (ite_wp (ite_wp ⟨q, rfl⟩ ⟨q, rfl⟩) ⟨q, rfl⟩)
  · exact one_wp S q _ _
  · exact ⟨q, rfl⟩
theorem act_wp (S : Scr) (q : List PRow) (t : Tk) : ∃ q', (S.wp q).act t = (S.act t).wp q' := by
  cases t with
  | sign n => exact put_wp S q n
  | fin =>
    obtain ⟨q1, e⟩ := down_wp S q
    show ∃ q', (S.wp q).down.stand (S.wp q).down.row 0 = _
    rw [e]; exact ⟨q1, rfl⟩
  | act w ns => exact ite_wp (small_wp S q w) (great_wp S q w ns)
theorem acts_wp : ∀ (ts : List Tk) (S : Scr) (q : List PRow), ∃ q', (S.wp q).acts ts = (S.acts ts).wp q'
  | [], _, q => ⟨q, rfl⟩
  | t :: ts, S, q => by
    obtain ⟨q1, e⟩ := act_wp S q t
    show ∃ q', ((S.wp q).act t).acts ts = ((S.act t).acts ts).wp q'
    rw [e]
    exact acts_wp ts (S.act t) q1
/-- a text of whole things comes to a reader that has begun nothing -/
theorem fed_good {S : Scr} {ts : List Tk} (h : S.rd.pre = .no) (g : ∀ t ∈ ts, t.Good) : S.fed (lawText ts) = S.acts ts := by
  have e : S.rd = ⟨.no, S.rd.lost⟩ := by
    cases hr : S.rd with
    | mk p l => rw [hr] at h; cases h; rfl
  exact fed_text S e (feed_text g _)
theorem acts_pre (S : Scr) (ts : List Tk) : (S.acts ts).rd.pre = S.rd.pre := by rw [acts_rd]
theorem new_pre (w h m : Nat) : (Scr.new w h m).rd.pre = .no := rfl
theorem acts_rep (n : Nat) : ∀ (k : Nat) (S : Scr), S.acts (List.replicate k (.sign n)) = putMany n k S
  | 0, _ => rfl
  | k + 1, S => acts_rep n k (S.put n)
end Scr
theorem dim_eqs {S : Scr} {w h m : Nat} (e : S.dim = (w, h, m)) : S.wide = w ∧ S.high = h ∧ S.most = m := by
  unfold Scr.dim at e
  injection e with e1 e2
  injection e2 with e2 e3
  exact ⟨e1, e2, e3⟩
theorem rstrip_rep (n : Nat) : rstripL (List.replicate n 32) = [] := by
  unfold rstripL
  rw [List.reverse_replicate]
  induction n with
  | zero => rfl
  | succ n ih =>
    rw [List.replicate_succ, List.dropWhile_cons, if_pos (by decide)]; exact ih
theorem rstrip_keep {l : List Nat} {x : Nat} (h : x ∈ l) (hx : x ≠ 32) : x ∈ rstripL l := by
  unfold rstripL
  rw [List.mem_reverse]
  have h' : x ∈ l.reverse := List.mem_reverse.mpr h
  generalize l.reverse = r at h'
  induction r with
  | nil => cases h'
  | cons y r ih =>
    rw [List.dropWhile_cons]
    split
    · rename_i hy
      rcases List.mem_cons.mp h' with rfl | h'
      · exact absurd (by simpa using hy) hx
      · exact ih h'
    · exact h'
theorem rowL_blank (w : Nat) : rowL (blankRow w) = [] := by
  unfold rowL blankRow
  rw [List.map_replicate]; exact rstrip_rep w
theorem rowL_len (p : PRow) : (rowL p).length ≤ p.cells.length := by
  unfold rowL rstripL
  rw [List.length_reverse]
  refine Nat.le_trans (List.dropWhile_sublist _).length_le ?_
  rw [List.length_reverse, List.length_map]; exact Nat.le_refl _
theorem texts_blank (w h : Nat) : textsV (List.replicate h (blankRow w)) = List.replicate h (.str (T [])) := by
  rw [textsV, List.map_replicate]
  show List.replicate h (V.str (T (rowL (blankRow w)))) = _
  rw [rowL_blank]
theorem textsD_blank (w h : Nat) : textsD (List.replicate h (blankRow w)) = .list (List.replicate h (.str (T []))) := by
  rw [textsD, List.map_replicate]
  show PyData.list (List.replicate h (.str (T (rowL (blankRow w))))) = _
  rw [rowL_blank]
/-- if .. else .. with one value -/
theorem x_iteTo {ta tb : TE} {σ : L2.St} {H : Hp} {Q : VK} {b : Bool} (v : V) (h1 : b = true → ∀ Q : VK, Q v H → ta σ H Q) (h2 : b = false → ∀ Q : VK, Q v H → tb σ H Q) (q : Q v H) : if b = true then ta σ H Q else tb σ H Q := by
  cases b with
  | true => rw [if_pos rfl]; exact h1 rfl _ q
  | false => rw [if_neg Bool.false_ne_true]; exact h2 rfl _ q
/-- if .. else .. that only sets names, one state behind it -/
theorem x_iteTo0 {A B : (L2.St → Hp → Prop) → Prop} {b : Bool} {Q : L2.St → Hp → Prop} (σ' : L2.St) (H' : Hp) (h1 : b = true → ∀ Q : L2.St → Hp → Prop, Q σ' H' → A Q) (h2 : b = false → ∀ Q : L2.St → Hp → Prop, Q σ' H' → B Q) (q : Q σ' H') : if b = true then A Q else B Q := by
  cases b with
  | true => rw [if_pos rfl]; exact h1 rfl _ q
  | false => rw [if_neg Bool.false_ne_true]; exact h2 rfl _ q
/-! ### views of what is told -/
section
variable {K : PySem.W.Frag} {F : Hp} {v : V} {ds : List PyData} {S : Scr}
theorem tup_view (h : Dp K F v (.tuple ds)) : ∃ p vs, v = .ref p ∧ SqT K F p vs ∧ DpAll K F vs ds := by
  cases h with
  | tup hs ha => exact ⟨_, _, rfl, hs, ha⟩
theorem lst_view (h : Dp K F v (.list ds)) : ∃ p vs, v = .ref p ∧ SqL K F p vs ∧ DpAll K F vs ds := by
  cases h with
  | lst hs ha => exact ⟨_, _, rfl, hs, ha⟩
theorem cursor_view (h : Dp K F v S.cursorD) : ∃ p, v = .ref p ∧ SqT K F p [.int (S.row : Nat), .int (S.column : Nat), .bl S.full] := by
  obtain ⟨p, vs, e, hs, ha⟩ := tup_view h
  cases ha with
  | cons a1 ha => cases ha with
    | cons a2 ha => cases ha with
      | cons a3 ha => cases ha; cases a1; cases a2; cases a3; exact ⟨p, e, hs⟩
theorem pair_view {a b : Int} (h : Dp K F v (.tuple [.int a, .int b])) : ∃ p, v = .ref p ∧ SqT K F p [.int a, .int b] := by
  obtain ⟨p, vs, e, hs, ha⟩ := tup_view h
  cases ha with
  | cons a1 ha => cases ha with
    | cons a2 ha => cases ha; cases a1; cases a2; exact ⟨p, e, hs⟩
theorem state_view (h : Dp K F v S.stateD) : ∃ p v1 q, v = .ref p ∧ SqT K F p [v1, .ref q] ∧ Dp K F v1 (penData S.pen) ∧ SqT K F q [.int (S.top : Nat), .int (S.bottom : Nat)] := by
  obtain ⟨p, vs, e, hs, ha⟩ := tup_view h
  cases ha with
  | cons a1 ha => cases ha with
    | cons a2 ha =>
      cases ha
      obtain ⟨q, rfl, hq⟩ := pair_view a2
      exact ⟨p, _, q, e, hs, a1, hq⟩
end
/-- i in (a, b, ..) -/
theorem inV_int (i : Int) (l : List Int) : inV (.int i) (l.map V.int) = decide (i ∈ l) := by
  unfold inV
  rw [List.any_map, Bool.eq_iff_iff, List.any_eq_true, decide_eq_true_eq]
  constructor
  · rintro ⟨n, hn, h⟩
    have h' : decide (n = i) = true := h
    rw [← of_decide_eq_true h']; exact hn
  · intro h
    exact ⟨i, h, by show decide (i = i) = true; exact decide_eq_true rfl⟩
theorem flat_int (l : List Int) : (l.map V.int).all flatV = true := by
  rw [List.all_map]; exact List.all_eq_true.mpr fun _ _ => rfl
theorem l_niI {K : PySem.W.Frag} {H : Hp} {Q : VK} {p : Addr} {i : Int} (l : List Int) (h : SqT K H p (l.map V.int)) (q : Q (.bl (!decide (i ∈ l))) H) : uNotIn K (.int i) (.ref p) H Q :=
  l_niT (.inr h) rfl (flat_int l) (by rw [inV_int]; exact q)
theorem l_inI {K : PySem.W.Frag} {H : Hp} {Q : VK} {p : Addr} {i : Int} (l : List Int) (h : SqT K H p (l.map V.int)) (q : Q (.bl (decide (i ∈ l))) H) : uIn K (.int i) (.ref p) H Q :=
  l_inT (.inr h) rfl (flat_int l) (by rw [inV_int]; exact q)
end Ss
/-! ## law k36 (plain) -/
namespace Ss
open PySem PySem.Spec PyProof.Rows L2
theorem good_act {w : Nat} {ns : List Nat} (h : isGreat w = true) (hl : ns.length ≤ 4) (hn : ∀ n ∈ ns, n ≤ 9999) : (Tk.act w ns).Good := .inr ⟨h, hl, hn⟩
theorem good_small {w : Nat} (h : isSmall w = true) : (Tk.act w []).Good := .inl ⟨h, rfl⟩
theorem fed_one {S : Scr} {t : Tk} {l : List Nat} (h : S.rd.pre = .no) (g : t.Good) (e : l = t.text) : S.fed l = S.act t := by
  have z := Scr.fed_good (ts := [t]) h fun u hu => by rw [List.mem_singleton.mp hu]; exact g
  have e2 : lawText [t] = t.text := by simp [lawText]
  rw [e, ← e2, z]; rfl
theorem act_J {S : Scr} {k : Nat} (hl : S.last = none) : S.act (.act 74 [k]) = S := by
  show S.one 74 k = S
  unfold Scr.one
  simp [hl]
theorem act_Jn {S : Scr} {n k : Nat} (hl : S.last = some n) : S.act (.act 74 [k]) = Scr.putMany n (min k (S.wide * S.high)) S := by
  show S.one 74 k = _
  unfold Scr.one
  simp [hl]
theorem k36_J5 {S : Scr} (hp : S.rd.pre = .no) (hl : S.last = none) : S.fed [94, 74, 40, 53, 41] = S :=
  (fed_one (t := .act 74 [5]) hp (good_act (by decide) (by decide) (by decide)) (by decide +kernel)).trans (act_J hl)
def k36Sign (i : Nat) : Nat := [97, 98, 99, 94].getD i 0
def k36Many (w h i : Nat) : Nat := [0, 1, 3, w, w * h, 9999].getD i 0
theorem k36_sign : ∀ i, i < 4 → isSign (k36Sign i) = true ∧ k36Sign i ≠ 10 ∧ k36Sign i ≠ 32 := by decide
theorem k36_many {w h i : Nat} (hi : i < 6) (hw : w ≤ 11) (hh : h ≤ 7) : k36Many w h i ≤ 9999 ∧ [V.int 0, V.int 1, V.int 3, V.int (w : Nat), V.int ((w * h : Nat) : Int), V.int 9999].getD i .non = .int (k36Many w h i : Nat) := by
  have hm : w * h ≤ 77 := Nat.mul_le_mul hw hh
  have e : i = 0 ∨ i = 1 ∨ i = 2 ∨ i = 3 ∨ i = 4 ∨ i = 5 := by omega
  rcases e with rfl | rfl | rfl | rfl | rfl | rfl
  · exact ⟨Nat.le_of_ble_eq_true rfl, rfl⟩
  · exact ⟨Nat.le_of_ble_eq_true rfl, rfl⟩
  · exact ⟨Nat.le_of_ble_eq_true rfl, rfl⟩
  · exact ⟨by show w ≤ 9999; omega, rfl⟩
  · exact ⟨by show w * h ≤ 9999; omega, rfl⟩
  · exact ⟨Nat.le_of_ble_eq_true rfl, rfl⟩
theorem sign_text (n : Nat) : (Tk.sign n).text.length ≤ 2 := by
  show (if n = 94 then [94, 94] else [n]).length ≤ 2
  split <;> simp
theorem k36_a {S : Scr} {n k : Nat} (hp : S.rd.pre = .no) (hn : isSign n = true ∧ n ≠ 10) (hk : k ≤ 9999) :
    S.fed ((Tk.sign n).text ++ [94, 74, 40] ++ TL.numL k ++ [41]) = Scr.putMany n (min k (S.wide * S.high) + 1) S := by
  have z := Scr.fed_good (ts := [.sign n, .act 74 [k]]) hp fun u hu => by
    rcases List.mem_cons.mp hu with rfl | hu
    · exact hn
    · rw [List.mem_singleton.mp hu]; exact good_act (by decide) (by simp) (by simpa using hk)
  have e2 : lawText [.sign n, .act 74 [k]] = (Tk.sign n).text ++ [94, 74, 40] ++ TL.numL k ++ [41] := by
    have e3 : (Tk.act 74 [k]).text = [94, 74, 40] ++ (TL.numL k ++ [41]) := rfl
    simp [lawText, e3]
  rw [← e2, z]
  show ((S.put n).act (.act 74 [k])) = _
  rw [act_Jn (put_last S n), Scr.dim_wide (Scr.put_dim S n), Scr.dim_high (Scr.put_dim S n)]
  rfl
theorem rep_text (n : Nat) : ∀ k, (List.replicate k (Tk.sign n).text).flatten = lawText (List.replicate k (.sign n))
  | 0 => rfl
  | k + 1 => by
    rw [List.replicate_succ, List.flatten_cons, rep_text n k, List.replicate_succ]; rfl
theorem k36_b {S : Scr} {n k : Nat} (hp : S.rd.pre = .no) (hn : isSign n = true ∧ n ≠ 10) : S.fed (List.replicate k (Tk.sign n).text).flatten = Scr.putMany n k S := by
  rw [rep_text, Scr.fed_good hp fun u hu => by rw [(List.mem_replicate.mp hu).2]; exact hn]
  exact Scr.acts_rep n k S
theorem rep_signs {n k : Nat} (hn : isSign n = true ∧ n ≠ 10) : ∀ x ∈ (List.replicate k (Tk.sign n).text).flatten, isSign x = true := by
  rw [rep_text]
  exact lawText_signs fun u hu => by rw [(List.mem_replicate.mp hu).2]; exact hn
theorem a_signs {n k : Nat} (hn : isSign n = true ∧ n ≠ 10) (hk : k ≤ 9999) : ∀ x ∈ (Tk.sign n).text ++ [94, 74, 40] ++ TL.numL k ++ [41], isSign x = true := by
  have e2 : lawText [.sign n, .act 74 [k]] = (Tk.sign n).text ++ [94, 74, 40] ++ TL.numL k ++ [41] := by
    have e3 : (Tk.act 74 [k]).text = [94, 74, 40] ++ (TL.numL k ++ [41]) := rfl
    simp [lawText, e3]
  rw [← e2]
  exact lawText_signs fun u hu => by
    rcases List.mem_cons.mp hu with rfl | hu
    · exact hn
    · rw [List.mem_singleton.mp hu]; exact good_act (by decide) (by simp) (by simpa using hk)
theorem put_there {S : Scr} (w : S.Wf) (n : Nat) : ∃ p ∈ (S.put n).rows, n ∈ p.cells.map (·.sign) := by
  have w1 := Scr.wrap_wf w
  unfold Scr.put
  generalize S.wrap = S1 at w1
  have hr : S1.row < S1.rows.length := by rw [w1.rl]; exact w1.row
  have e : (S1.type1 n).rows = S1.rows.set S1.row { S1.rowAt S1.row with cells := (S1.rowAt S1.row).cells.set S1.column ⟨n, S1.pen⟩ } := by
    unfold Scr.type1 Scr.next
    split <;> rfl
  rw [e]
  refine ⟨_, List.mem_of_getElem? (List.getElem?_set_self hr), ?_⟩
  have hc : S1.column < (S1.rowAt S1.row).cells.length := by rw [Scr.rowAt_len w1 w1.row]; exact w1.column
  refine List.mem_map.mpr ⟨⟨n, S1.pen⟩, ?_, rfl⟩
  exact List.mem_of_getElem? (List.getElem?_set_self hc)
theorem k36_in {S : Scr} (w : S.Wf) {n : Nat} (hn : n ≠ 32) (k : Nat) : n ∈ ((Scr.putMany n (k + 1) S).rows.map rowL ++ (Scr.putMany n (k + 1) S).past.map rowL).flatten := by
  rw [putMany_succ]
  obtain ⟨p, hp, hm⟩ := put_there (Scr.putMany_wf n k w) n
  exact List.mem_flatten.mpr ⟨rowL p, List.mem_append_left _ (List.mem_map_of_mem hp), rstrip_keep hm hn⟩
theorem begin_eq {S : Scr} {w h m : Nat} (hd : S.dim = (w, h, m)) : S.begin = ((Scr.new w h m).wr S.rd).wp S.past := by
  have e1 : S.wide = w := congrArg (·.1) hd
  have e2 : S.high = h := congrArg (·.2.1) hd
  have e3 : S.most = m := congrArg (·.2.2) hd
  subst e1 e2 e3
  rfl
theorem k36_z {S : Scr} (hp : S.rd.pre = .no) : S.fed [94, 122] = S.begin := (fed_one (t := .act 122 []) hp (good_small (by decide)) (by decide)).trans rfl
theorem J3_signs {l : List Nat} (h : ∀ x ∈ l, isSign x = true) : ∀ x ∈ [94, 74, 40, 51, 41] ++ l, isSign x = true := fun x hx => by
  rcases List.mem_append.mp hx with hx | hx
  · have : ∀ x ∈ [94, 74, 40, 51, 41], isSign x = true := by decide
    exact this x hx
  · exact h x hx
theorem J3_ok {l : List Nat} (h : ∀ x ∈ l, isSign x = true) (hl : l.length ≤ 304) : okText (.str (T ([94, 74, 40, 51, 41] ++ l))) = true := okText_of (J3_signs h) (by simp; omega)
theorem begin_told {S : Scr} {w h m : Nat} (hd : S.dim = (w, h, m)) : S.begin.cursorD = (Scr.new w h m).cursorD ∧ S.begin.pageD = (Scr.new w h m).pageD ∧ S.begin.stateD = (Scr.new w h m).stateD ∧ S.begin.past = S.past := by
  rw [begin_eq hd]
  exact ⟨rfl, rfl, rfl, rfl⟩
theorem k36_c {S : Scr} {w h m : Nat} {row : List Tk} (hp : S.rd.pre = .no) (hd : S.dim = (w, h, m)) (g : ∀ t ∈ row, t.Good) :
    (S.begin.fed ([94, 74, 40, 51, 41] ++ lawText row)).pageD = ((Scr.new w h m).fed (lawText row)).pageD ∧ (S.begin.fed ([94, 74, 40, 51, 41] ++ lawText row)).cursorD = ((Scr.new w h m).fed (lawText row)).cursorD := by
  have e0 : [94, 74, 40, 51, 41] ++ lawText row = lawText (.act 74 [3] :: row) := by
    have e3 : (Tk.act 74 [3]).text = [94, 74, 40, 51, 41] := by decide +kernel
    show _ = (Tk.act 74 [3]).text ++ lawText row
    rw [e3]
  have g' : ∀ t ∈ Tk.act 74 [3] :: row, t.Good := fun t ht => by
    rcases List.mem_cons.mp ht with rfl | ht
    · exact good_act (by decide) (by decide) (by decide)
    · exact g t ht
  have hn : (Scr.new w h m).rd.pre = .no := rfl
  rw [e0, Scr.fed_good (S := S.begin) hp g', Scr.acts_cons, act_J (S := S.begin) rfl, begin_eq hd, Scr.fed_good hn g]
  obtain ⟨q, e⟩ := Scr.acts_wp row ((Scr.new w h m).wr S.rd) S.past
  rw [e, Scr.acts_wr]
  exact ⟨rfl, rfl⟩
end Ss
/-! ## law k34 (plain) -/
namespace Ss
open PySem PySem.Spec PyProof.Rows L2
def Scr.at_ (S : Scr) (r k : Nat) (f : Bool) : Scr := { S with row := r, column := k, full := f }
def cl (m : Nat) (x : Int) : Nat := (max 0 (min ((m : Int) - 1) x)).toNat
theorem cl_int (m : Nat) (x : Int) : max 0 (min ((m : Int) - 1) x) = ((cl m x : Nat) : Int) := by unfold cl; omega
theorem cl_id {m k : Nat} (h : k < m) : cl m (k : Int) = k := by unfold cl; omega
theorem stand_at (S : Scr) (x y : Int) : S.stand x y = S.at_ (cl S.high x) (cl S.wide y) false := rfl
theorem at_at (S : Scr) (r k r' k' : Nat) (f f' : Bool) : (S.at_ r k f).at_ r' k' f' = S.at_ r' k' f' := rfl
theorem fed_G {S : Scr} (hp : S.rd.pre = .no) {r k : Nat} (hr : r ≤ 9999) (hk : k ≤ 9999) : S.fed ([94, 71, 40] ++ TL.numL r ++ [44] ++ TL.numL k ++ [41]) = S.stand r k := by
  refine (fed_one (t := .act 71 [r, k]) hp (good_act (by decide) (by simp) (by simp; omega)) ?_).trans rfl
  show _ = [94, 71, 40] ++ (TL.joinL [44] [TL.numL r, TL.numL k] ++ [41])
  simp [TL.joinL]
theorem G_signs {r k : Nat} (hr : r ≤ 9999) (hk : k ≤ 9999) : ∀ x ∈ [94, 71, 40] ++ TL.numL r ++ [44] ++ TL.numL k ++ [41], isSign x = true := by
  have e : [94, 71, 40] ++ TL.numL r ++ [44] ++ TL.numL k ++ [41] = (Tk.act 71 [r, k]).text := by
    show _ = [94, 71, 40] ++ (TL.joinL [44] [TL.numL r, TL.numL k] ++ [41])
    simp [TL.joinL]
  rw [e]
  exact text_signs (good_act (by decide) (by simp) (by simp; omega))
theorem G_ok {r k : Nat} (hr : r ≤ 9999) (hk : k ≤ 9999) : okText (.str (T ([94, 71, 40] ++ TL.numL r ++ [44] ++ TL.numL k ++ [41]))) = true := by
  have a := numL_len4 hr
  have b := numL_len4 hk
  exact okText_of (G_signs hr hk) (by simp; omega)
def k34Word (i : Nat) : Nat := [117, 100, 108, 114, 104, 71].getD i 0
/-- by how much a move goes -/
def k34By (i r k : Nat) : Int × Int := match i with
  | 0 => (-1, 0)
  | 1 => (1, 0)
  | 2 => (0, -1)
  | 3 => (0, 1)
  | _ => (0 - (r : Int), 0 - (k : Int))
theorem k34_move {S : Scr} (hp : S.rd.pre = .no) {i : Nat} (hi : i < 5) : S.fed [94, k34Word i] = S.at_ (cl S.high ((S.row : Int) + (k34By i S.row S.column).1)) (cl S.wide ((S.column : Int) + (k34By i S.row S.column).2)) false := by
  have e : i = 0 ∨ i = 1 ∨ i = 2 ∨ i = 3 ∨ i = 4 := by omega
  rcases e with rfl | rfl | rfl | rfl | rfl
  · refine (fed_one (t := .act 117 []) hp (good_small (by decide)) rfl).trans ?_
    show S.stand ((S.row : Int) - 1) S.column = S.stand ((S.row : Int) + -1) ((S.column : Int) + 0)
    rw [Int.add_zero]; rfl
  · refine (fed_one (t := .act 100 []) hp (good_small (by decide)) rfl).trans ?_
    show S.stand ((S.row : Int) + 1) S.column = S.stand ((S.row : Int) + 1) ((S.column : Int) + 0)
    rw [Int.add_zero]
  · refine (fed_one (t := .act 108 []) hp (good_small (by decide)) rfl).trans ?_
    show S.stand S.row ((S.column : Int) - 1) = S.stand ((S.row : Int) + 0) ((S.column : Int) + -1)
    rw [Int.add_zero]; rfl
  · refine (fed_one (t := .act 114 []) hp (good_small (by decide)) rfl).trans ?_
    show S.stand S.row ((S.column : Int) + 1) = S.stand ((S.row : Int) + 0) ((S.column : Int) + 1)
    rw [Int.add_zero]
  · refine (fed_one (t := .act 104 []) hp (good_small (by decide)) rfl).trans ?_
    show S.stand 0 0 = S.stand ((S.row : Int) + (0 - (S.row : Int))) ((S.column : Int) + (0 - (S.column : Int)))
    rw [show (S.row : Int) + (0 - (S.row : Int)) = 0 by omega, show (S.column : Int) + (0 - (S.column : Int)) = 0 by omega]
theorem k34_word_ok : ∀ i, i < 5 → okText (.str (T [94, k34Word i])) = true := by decide
theorem k34_np {S : Scr} (hp : S.rd.pre = .no) (w : S.Wf) (hf : S.full = false) (h1 : S.row ≠ S.bottom) (h2 : S.row ≠ S.high - 1) (h3 : S.row + 1 ≠ S.top) : S.fed [94, 110, 94, 112] = S := by
  have z := Scr.fed_good (ts := [.act 110 [], .act 112 []]) hp fun u hu => by
    rcases List.mem_cons.mp hu with rfl | hu
    · exact good_small (by decide)
    · rw [List.mem_singleton.mp hu]; exact good_small (by decide)
  have e2 : lawText [.act 110 [], .act 112 []] = [94, 110, 94, 112] := by decide
  rw [← e2, z]
  have hr := w.row
  have hc := w.column
  have hlt : S.row < S.high - 1 := by omega
  have e1 : S.down = { S with row := S.row + 1 } := by
    unfold Scr.down
    rw [if_neg h1, if_pos hlt]
  have e3 : S.act (.act 110 []) = S.at_ (S.row + 1) S.column false := by
    show S.down.stand S.down.row S.down.column = _
    rw [e1]
    show S.at_ (cl S.high ((S.row + 1 : Nat) : Int)) (cl S.wide (S.column : Int)) false = _
    rw [cl_id (by omega), cl_id hc]
  show (S.act (.act 110 [])).act (.act 112 []) = S
  rw [e3]
  have e4 : (S.at_ (S.row + 1) S.column false).up = S.at_ S.row S.column false := by
    unfold Scr.up
    rw [if_neg (show ¬ (S.at_ (S.row + 1) S.column false).row = (S.at_ (S.row + 1) S.column false).top from h3), if_pos (show 0 < (S.at_ (S.row + 1) S.column false).row from Nat.succ_pos _)]
    rfl
  show (S.at_ (S.row + 1) S.column false).up.stand (S.at_ (S.row + 1) S.column false).up.row (S.at_ (S.row + 1) S.column false).up.column = S
  rw [e4]
  show S.at_ (cl S.high (S.row : Int)) (cl S.wide (S.column : Int)) false = S
  rw [cl_id hr, cl_id hc, ← hf]; rfl
theorem k34_t {S : Scr} (hp : S.rd.pre = .no) {r k : Nat} (hb : S.putBy = (r, k, S.pen)) (hr : r < S.high) (hk : k < S.wide) : S.fed [94, 67, 40, 55, 41, 94, 66, 40, 49, 41, 94, 77, 40, 48, 41, 94, 116] = S.at_ r k false := by
  have z := Scr.fed_good (ts := [.act 67 [7], .act 66 [1], .act 77 [0], .act 116 []]) hp fun u hu => by
    rcases List.mem_cons.mp hu with rfl | hu
    · exact good_act (by decide) (by decide) (by decide)
    rcases List.mem_cons.mp hu with rfl | hu
    · exact good_act (by decide) (by decide) (by decide)
    rcases List.mem_cons.mp hu with rfl | hu
    · exact good_act (by decide) (by decide) (by decide)
    rw [List.mem_singleton.mp hu]; exact good_small (by decide)
  have e2 : lawText [.act 67 [7], .act 66 [1], .act 77 [0], .act 116 []] = [94, 67, 40, 55, 41, 94, 66, 40, 49, 41, 94, 77, 40, 48, 41, 94, 116] := by decide +kernel
  rw [← e2, z]
  have e3 : S.acts [.act 67 [7], .act 66 [1], .act 77 [0], .act 116 []] = { S.at_ (cl S.high S.putBy.1) (cl S.wide S.putBy.2.1) false with pen := S.putBy.2.2 } := rfl
  rw [e3, hb]
  show { S.at_ (cl S.high (r : Int)) (cl S.wide (k : Int)) false with pen := S.pen } = _
  rw [cl_id hr, cl_id hk]; rfl
theorem k34_no {S : Scr} (hp : S.rd.pre = .no) : S.fed [94, 67, 40, 56, 41, 94, 66, 40, 57, 57, 57, 57, 41, 94, 77, 40, 52, 41, 94, 67, 40, 41, 94, 67, 40, 49, 44, 50, 41] = S := by
  have z := Scr.fed_good (ts := [.act 67 [8], .act 66 [9999], .act 77 [4], .act 67 [], .act 67 [1, 2]]) hp fun u hu => by
    rcases List.mem_cons.mp hu with rfl | hu
    · exact good_act (by decide) (by decide) (by decide)
    rcases List.mem_cons.mp hu with rfl | hu
    · exact good_act (by decide) (by decide) (by decide)
    rcases List.mem_cons.mp hu with rfl | hu
    · exact good_act (by decide) (by decide) (by decide)
    rcases List.mem_cons.mp hu with rfl | hu
    · exact good_act (by decide) (by decide) (by decide)
    rw [List.mem_singleton.mp hu]; exact good_act (by decide) (by decide) (by decide)
  have e2 : lawText [.act 67 [8], .act 66 [9999], .act 77 [4], .act 67 [], .act 67 [1, 2]] = [94, 67, 40, 56, 41, 94, 66, 40, 57, 57, 57, 57, 41, 94, 77, 40, 52, 41, 94, 67, 40, 41, 94, 67, 40, 49, 44, 50, 41] := by decide +kernel
  rw [← e2, z]; rfl
/-- the beginning -/
theorem k34_start {S : Scr} (hp : S.rd.pre = .no) {row : List Tk} (g : ∀ t ∈ row, t.Good) : ∃ X : Scr, S.fed (lawText row ++ [94, 67, 40, 51, 41, 94, 77, 40, 50, 41, 94, 115]) = X ∧ X.rd.pre = .no ∧ X.dim = S.dim ∧ X.putBy = (X.row, X.column, X.pen) := by
  have z := Scr.fed_good (ts := row ++ [.act 67 [3], .act 77 [2], .act 115 []]) hp fun u hu => by
    rcases List.mem_append.mp hu with hu | hu
    · exact g u hu
    rcases List.mem_cons.mp hu with rfl | hu
    · exact good_act (by decide) (by decide) (by decide)
    rcases List.mem_cons.mp hu with rfl | hu
    · exact good_act (by decide) (by decide) (by decide)
    rw [List.mem_singleton.mp hu]; exact good_small (by decide)
  have e2 : lawText [.act 67 [3], .act 77 [2], .act 115 []] = [94, 67, 40, 51, 41, 94, 77, 40, 50, 41, 94, 115] := by decide +kernel
  rw [lawText_app, e2] at z
  refine ⟨_, rfl, ?_, ?_, ?_⟩
  · rw [z]; exact (Scr.acts_pre _ _).trans hp
  · exact Scr.fed_dim _ _
  · rw [z, Scr.acts_app]; rfl
theorem start_signs {row : List Tk} (g : ∀ t ∈ row, t.Good) : ∀ x ∈ lawText row ++ [94, 67, 40, 51, 41, 94, 77, 40, 50, 41, 94, 115], isSign x = true := fun x hx => by
  rcases List.mem_append.mp hx with hx | hx
  · exact lawText_signs g x hx
  · have : ∀ x ∈ [94, 67, 40, 51, 41, 94, 77, 40, 50, 41, 94, 115], isSign x = true := by decide
    exact this x hx
theorem at_wf {S : Scr} (w : S.Wf) {r k : Nat} {f : Bool} (hr : r < S.high) (hk : k < S.wide) : (S.at_ r k f).Wf := ⟨w.w1, w.w2, w.h1, w.h2, w.m, w.rl, w.rw, w.pl, w.pw, hr, hk, w.tb, w.bh, w.rd⟩
theorem get5 {a b d e f : V} (i : Nat) (hi : i < 5) : valV (mergeK [] [(Sum.inr (T [117]), a), (Sum.inr (T [100]), b), (Sum.inr (T [108]), d), (Sum.inr (T [114]), e), (Sum.inr (T [104]), f)]) (Sum.inr (T [k34Word i])) = some ([a, b, d, e, f].getD i .non) := by
  have z : i = 0 ∨ i = 1 ∨ i = 2 ∨ i = 3 ∨ i = 4 := by omega
  rcases z with rfl | rfl | rfl | rfl | rfl <;> kernel_rfl
end Ss
/-! ## Screens: the grid of their cells; lines typed -/
namespace Ss
open PySem PySem.Spec PyProof.Rows L2
def blankLine (w : Nat) : List Cell := List.replicate w blankCell
def gridD (g : List (List Cell)) : PyData := .list (g.map fun l => .list (l.map Cell.data))
def lineText (l : List Cell) : List Nat := rstripL (l.map (·.sign))
namespace Scr
def grid (S : Scr) : List (List Cell) := S.rows.map (·.cells)
variable {S : Scr}
theorem pageD_grid (S : Scr) : S.pageD = gridD S.grid := by
  unfold pageD gridD grid
  rw [List.map_map]; rfl
theorem grid_len (w : S.Wf) : S.grid.length = S.high := by unfold grid; rw [List.length_map]; exact w.rl
theorem grid_w (w : S.Wf) : ∀ l ∈ S.grid, l.length = S.wide := fun l hl => by
  obtain ⟨p, hp, rfl⟩ := List.mem_map.mp hl
  exact w.rw p hp
theorem grid_at (S : Scr) (i : Nat) : S.grid.getD i [] = (S.rowAt i).cells := by
  unfold grid rowAt
  rw [List.getD_eq_getElem?_getD, List.getD_eq_getElem?_getD, List.getElem?_map]
  cases S.rows[i]? <;> rfl
theorem grid_setRow (S : Scr) (i : Nat) (p : PRow) : (S.setRow i p).grid = S.grid.set i p.cells := by
  show (S.rows.set i p).map (·.cells) = _
  rw [List.map_set]; rfl
theorem grid_setGoes (S : Scr) (i : Nat) (b : Bool) : (S.setGoes i b).grid = S.grid := by
  unfold setGoes
  rw [grid_setRow]
  show S.grid.set i (S.rowAt i).cells = S.grid
  rw [← grid_at]
  refine List.ext_getElem? fun j => ?_
  by_cases h : i = j
  · subst h
    by_cases hi : i < S.grid.length
    · rw [List.getElem?_set_self hi, List.getD_eq_getElem?_getD, List.getElem?_eq_getElem hi]; rfl
    · rw [List.getElem?_eq_none (by rw [List.length_set]; omega), List.getElem?_eq_none (by omega)]
  · rw [List.getElem?_set_ne h]
theorem grid_cutOff (S : Scr) (t : Nat) : (S.cutOff t).grid = S.grid := by
  unfold cutOff
  split
  · rw [grid_setGoes, grid_setGoes]
  · rw [grid_setGoes]
theorem grid_rep (n w : Nat) : (List.replicate n (blankRow w)).map (·.cells) = List.replicate n (blankLine w) := by rw [List.map_replicate]; rfl
theorem grid_roll (S : Scr) (t n : Nat) : (S.roll t n).grid = S.grid.take t ++ (S.grid.drop (t + min n (S.bottom + 1 - t))).take (S.bottom + 1 - (t + min n (S.bottom + 1 - t))) ++ List.replicate (min n (S.bottom + 1 - t)) (blankLine S.wide) ++ S.grid.drop (S.bottom + 1) := by
  unfold roll
  rw [grid_cutOff]
  show (S.rows.take t ++ (S.rows.drop _).take _ ++ List.replicate _ (blankRow S.wide) ++ S.rows.drop _).map (·.cells) = _
  unfold grid
  rw [List.map_append, List.map_append, List.map_append, List.map_take, List.map_take, List.map_drop, List.map_drop, grid_rep]
theorem grid_rollDown (S : Scr) (t n : Nat) : (S.rollDown t n).grid = S.grid.take t ++ List.replicate (min n (S.bottom + 1 - t)) (blankLine S.wide) ++ (S.grid.drop t).take (S.bottom + 1 - min n (S.bottom + 1 - t) - t) ++ S.grid.drop (S.bottom + 1) := by
  unfold rollDown
  rw [grid_cutOff]
  show (S.rows.take t ++ List.replicate _ (blankRow S.wide) ++ (S.rows.drop t).take _ ++ S.rows.drop _).map (·.cells) = _
  unfold grid
  rw [List.map_append, List.map_append, List.map_append, List.map_take, List.map_take, List.map_drop, List.map_drop, grid_rep]
/-- all but rows and rows' flags stays -/
structure Rest (S S' : Scr) : Prop where
  dim : S'.dim = S.dim
  past : S'.past = S.past
  row : S'.row = S.row
  column : S'.column = S.column
  full : S'.full = S.full
  pen : S'.pen = S.pen
  top : S'.top = S.top
  bottom : S'.bottom = S.bottom
  putBy : S'.putBy = S.putBy
  last : S'.last = S.last
  rd : S'.rd = S.rd
theorem Rest.refl (S : Scr) : Rest S S := ⟨rfl, rfl, rfl, rfl, rfl, rfl, rfl, rfl, rfl, rfl, rfl⟩
theorem cutOff_rest (S : Scr) (t : Nat) : Rest S (S.cutOff t) := by
  unfold cutOff
  split <;> exact ⟨rfl, rfl, rfl, rfl, rfl, rfl, rfl, rfl, rfl, rfl, rfl⟩
theorem rollDown_rest (S : Scr) (t n : Nat) : Rest S (S.rollDown t n) := by
  have h := cutOff_rest (S.rolledDown t (min n (S.bottom + 1 - t))) t
  exact ⟨h.dim, h.past, h.row, h.column, h.full, h.pen, h.top, h.bottom, h.putBy, h.last, h.rd⟩
theorem takeRows_rest (S : Scr) (n : Nat) : Rest S (S.takeRows n) := by
  have h := cutOff_rest (S.rolled S.row (min n (S.bottom + 1 - S.row))) S.row
  exact ⟨h.dim, rfl, h.row, h.column, h.full, h.pen, h.top, h.bottom, h.putBy, h.last, h.rd⟩
theorem grid_takeRows (S : Scr) (n : Nat) : (S.takeRows n).grid = (S.roll S.row n).grid := rfl
/-! ### a line typed where there is room -/
def typedRow (S : Scr) (l : List Nat) : List Cell := (S.rowAt S.row).cells.take S.column ++ l.map (fun n => ⟨n, S.pen⟩) ++ (S.rowAt S.row).cells.drop (S.column + l.length)
def typed (S : Scr) (l : List Nat) : Scr :=
  { S.setCells (S.typedRow l) with column := if S.column + l.length = S.wide then S.wide - 1 else S.column + l.length, full := decide (S.column + l.length = S.wide), last := l.getLast? }
theorem rowAt_set (S : Scr) (i : Nat) (p : PRow) (h : i < S.rows.length) : (S.setRow i p).rowAt i = p := by
  show (S.rows.set i p).getD i _ = p
  rw [List.getD_eq_getElem?_getD, List.getElem?_set_self h]; rfl
theorem setRow_setRow (S : Scr) (i : Nat) (p q : PRow) : (S.setRow i p).setRow i q = S.setRow i q := by
  show ({ S with rows := (S.rows.set i p).set i q } : Scr) = { S with rows := S.rows.set i q }
  rw [List.set_set]
theorem set_mid {α : Type} (A : List α) (b : α) (B : List α) (x : α) : (A ++ b :: B).set A.length x = A ++ x :: B := by
  rw [List.set_append_right _ _ (Nat.le_refl _), Nat.sub_self]; rfl
theorem put_room (w : S.Wf) (hf : S.full = false) (n : Nat) : S.put n = S.typed [n] := by
  have hc := w.column
  have hl := rowAt_len w w.row
  have hw : S.wrap = S := by unfold wrap; rw [hf]; rfl
  unfold put
  rw [hw]
  have e : (S.rowAt S.row).cells.set S.column ⟨n, S.pen⟩ = S.typedRow [n] := by
    unfold typedRow
    have h1 : (S.rowAt S.row).cells = (S.rowAt S.row).cells.take S.column ++ (S.rowAt S.row).cells[S.column]'(by omega) :: (S.rowAt S.row).cells.drop (S.column + 1) := by
      rw [List.getElem_cons_drop]; exact (List.take_append_drop _ _).symm
    have h2 : ((S.rowAt S.row).cells.take S.column).length = S.column := by rw [List.length_take]; omega
    generalize (S.rowAt S.row).cells.take S.column = A at h1 h2
    generalize (S.rowAt S.row).cells[S.column]'(by omega) = b at h1
    show (S.rowAt S.row).cells.set S.column ⟨n, S.pen⟩ = A ++ [⟨n, S.pen⟩] ++ (S.rowAt S.row).cells.drop (S.column + 1)
    generalize (S.rowAt S.row).cells.drop (S.column + 1) = B at h1
    rw [h1, ← h2, set_mid]
    simp
  have hx : ∀ X : Scr, X.column = S.column → X.wide = S.wide → X.next = if S.column = S.wide - 1 then { X with full := true } else { X with column := S.column + 1 } := fun X h1 h2 => by unfold next; rw [h1, h2]
  unfold type1 typed
  rw [e]
  refine (hx { S.setCells (S.typedRow [n]) with last := some n } rfl rfl).trans ?_
  by_cases h : S.column = S.wide - 1
  · rw [if_pos h]
    have h2 : S.column + [n].length = S.wide := by show S.column + 1 = S.wide; omega
    rw [if_pos h2, decide_eq_true h2, ← h]; rfl
  · rw [if_neg h]
    have h2 : ¬ S.column + [n].length = S.wide := by show ¬ S.column + 1 = S.wide; omega
    rw [if_neg h2, decide_eq_false h2, ← hf]; rfl
theorem typed_one_wf (w : S.Wf) (hf : S.full = false) (n : Nat) : (S.typed [n]).Wf := by
  rw [← put_room w hf n]; exact put_wf w n
theorem type_line : ∀ (l : List Nat) {S : Scr}, S.Wf → S.full = false → l ≠ [] → S.column + l.length ≤ S.wide → S.acts (l.map .sign) = S.typed l
  | [], _, _, _, h, _ => absurd rfl h
  | [n], _, w, hf, _, _ => put_room w hf n
  | n :: m :: l, S, w, hf, _, hl => by
    have hl' : S.column + (l.length + 1 + 1) ≤ S.wide := hl
    have hc := w.column
    have hrl := rowAt_len w w.row
    have w1 := typed_one_wf w hf n
    have h2 : ¬ S.column + [n].length = S.wide := by show ¬ S.column + 1 = S.wide; omega
    have ec : (S.typed [n]).column = S.column + 1 := by show (if S.column + [n].length = S.wide then _ else _) = _; rw [if_neg h2]; rfl
    have ef : (S.typed [n]).full = false := decide_eq_false h2
    have ih := type_line (m :: l) w1 ef (by simp) (by rw [ec]; show S.column + 1 + (l.length + 1) ≤ S.wide; omega)
    show (S.put n).acts ((m :: l).map .sign) = _
    rw [put_room w hf n, ih]
    have er : (S.typed [n]).rowAt (S.typed [n]).row = { S.rowAt S.row with cells := S.typedRow [n] } := rowAt_set S S.row _ (by rw [w.rl]; exact w.row)
    have et : (S.typed [n]).typedRow (m :: l) = S.typedRow (n :: m :: l) := by
      unfold typedRow
      rw [er, ec]
      show (S.typedRow [n]).take (S.column + 1) ++ (m :: l).map (fun n => ⟨n, S.pen⟩) ++ (S.typedRow [n]).drop (S.column + 1 + (m :: l).length) = _
      have ea : ((S.rowAt S.row).cells.take S.column ++ [(⟨n, S.pen⟩ : Cell)]).length = S.column + 1 := by rw [List.length_append, List.length_take]; show min _ _ + 1 = _; omega
      have e1 : (S.typedRow [n]).take (S.column + 1) = (S.rowAt S.row).cells.take S.column ++ [⟨n, S.pen⟩] := by
        show ((S.rowAt S.row).cells.take S.column ++ [(⟨n, S.pen⟩ : Cell)] ++ (S.rowAt S.row).cells.drop (S.column + 1)).take (S.column + 1) = _
        rw [← ea]; exact List.take_left
      have e2 : (S.typedRow [n]).drop (S.column + 1 + (m :: l).length) = (S.rowAt S.row).cells.drop (S.column + (n :: m :: l).length) := by
        show ((S.rowAt S.row).cells.take S.column ++ [(⟨n, S.pen⟩ : Cell)] ++ (S.rowAt S.row).cells.drop (S.column + 1)).drop (S.column + 1 + (m :: l).length) = _
        rw [← List.drop_drop]
        have e3 : ((S.rowAt S.row).cells.take S.column ++ [(⟨n, S.pen⟩ : Cell)] ++ (S.rowAt S.row).cells.drop (S.column + 1)).drop (S.column + 1) = (S.rowAt S.row).cells.drop (S.column + 1) := by
          rw [← ea]; exact List.drop_left
        rw [e3, List.drop_drop]
        show _ = (S.rowAt S.row).cells.drop (S.column + ((m :: l).length + 1))
        rw [show S.column + 1 + (m :: l).length = S.column + ((m :: l).length + 1) by omega]
      rw [e1, e2]; simp
    have es : ∀ x : List Cell, (S.typed [n]).setCells x = { S.setCells x with column := (S.typed [n]).column, full := (S.typed [n]).full, last := (S.typed [n]).last } := fun x => by
      unfold setCells
      rw [er]
      show ({ (S.typed [n]) with rows := (S.rows.set S.row _).set S.row _ } : Scr) = _
      rw [List.set_set]; rfl
    have e5 : S.column + 1 + (m :: l).length = S.column + (n :: m :: l).length := by show S.column + 1 + (l.length + 1) = S.column + (l.length + 1 + 1); omega
    show ({ (S.typed [n]).setCells ((S.typed [n]).typedRow (m :: l)) with column := if (S.typed [n]).column + (m :: l).length = S.wide then S.wide - 1 else (S.typed [n]).column + (m :: l).length, full := decide ((S.typed [n]).column + (m :: l).length = S.wide), last := (m :: l).getLast? } : Scr) = _
    rw [et, es, ec, e5]
    rfl
end Scr
end Ss
/-! ## Pages as they lie; comprehensions with a test -/
namespace Ss
open PySem PySem.Spec PyProof.Rows L2
/-- rows of cells, each a list of its own -/
def GridV (c : Ctx) (F : Hp) : List V → List (List Cell) → Prop
  | [], [] => True
  | y :: ys, l :: g => (∃ (r : Addr) (vals : List V), y = .ref r ∧ F r = some (.lst vals) ∧ DpAll c.K F vals (l.map Cell.data)) ∧ GridV c F ys g
  | _, _ => False
section
variable {c : Ctx} {F F' : Hp}
theorem GridV.gr (s : Gr F F') : ∀ {ys : List V} {g : List (List Cell)}, GridV c F ys g → GridV c F' ys g
  | [], [], _ => trivial
  | _ :: _, _ :: _, ⟨⟨r, vals, a, b, d⟩, h⟩ => ⟨⟨r, vals, a, s.lst b, s.dpAll d⟩, GridV.gr s h⟩
  | [], _ :: _, h => h
  | _ :: _, [], h => h
theorem GridV.len : ∀ {ys : List V} {g : List (List Cell)}, GridV c F ys g → ys.length = g.length
  | [], [], _ => rfl
  | _ :: _, _ :: _, h => congrArg Nat.succ (GridV.len h.2)
  | [], _ :: _, h => h.elim
  | _ :: _, [], h => h.elim
theorem GridV.dp : ∀ {ys : List V} {g : List (List Cell)}, GridV c F ys g → DpAll c.K F ys (g.map fun l => .list (l.map Cell.data))
  | [], [], _ => .nil
  | _ :: _, _ :: _, ⟨⟨r, vals, a, b, d⟩, h⟩ => .cons (by rw [a]; exact .lst (sq_of b) d) (GridV.dp h)
  | [], _ :: _, h => h.elim
  | _ :: _, [], h => h.elim
theorem GridV.get : ∀ {ys : List V} {g : List (List Cell)} (i : Nat), GridV c F ys g → i < g.length → ∃ (r : Addr) (vals : List V), ys.getD i .non = .ref r ∧ F r = some (.lst vals) ∧ DpAll c.K F vals ((g.getD i []).map Cell.data)
  | [], [], _, _, h => absurd h (Nat.not_lt_zero _)
  | _ :: _, _ :: _, 0, h, _ => h.1
  | _ :: _, _ :: _, i + 1, h, hi => GridV.get i h.2 (Nat.lt_of_succ_lt_succ hi)
  | [], _ :: _, _, h, _ => h.elim
  | _ :: _, [], _, h, _ => h.elim
theorem GridV.take : ∀ {ys : List V} {g : List (List Cell)} (n : Nat), GridV c F ys g → GridV c F (ys.take n) (g.take n)
  | [], [], n, _ => by rw [List.take_nil, List.take_nil]; trivial
  | _ :: _, _ :: _, 0, _ => trivial
  | _ :: _, _ :: _, n + 1, h => ⟨h.1, GridV.take n h.2⟩
  | [], _ :: _, _, h => h.elim
  | _ :: _, [], _, h => h.elim
theorem GridV.drop : ∀ {ys : List V} {g : List (List Cell)} (n : Nat), GridV c F ys g → GridV c F (ys.drop n) (g.drop n)
  | [], [], n, _ => by rw [List.drop_nil, List.drop_nil]; trivial
  | _ :: _, _ :: _, 0, h => h
  | _ :: _, _ :: _, n + 1, h => GridV.drop n h.2
  | [], _ :: _, _, h => h.elim
  | _ :: _, [], _, h => h.elim
theorem GridV.app : ∀ {ys zs : List V} {g k : List (List Cell)}, GridV c F ys g → GridV c F zs k → GridV c F (ys ++ zs) (g ++ k)
  | [], _, [], _, _, h => h
  | _ :: _, _, _ :: _, _, h, h2 => ⟨h.1, GridV.app h.2 h2⟩
  | [], _, _ :: _, _, h, _ => h.elim
  | _ :: _, _, [], _, h, _ => h.elim
theorem GridV.set {r : Addr} {vals : List V} {l : List Cell} (hr : F r = some (.lst vals)) (hd : DpAll c.K F vals (l.map Cell.data)) : ∀ {ys : List V} {g : List (List Cell)} (i : Nat), GridV c F ys g → GridV c F (ys.set i (.ref r)) (g.set i l)
  | [], [], _, _ => trivial
  | _ :: _, _ :: _, 0, h => ⟨⟨r, vals, rfl, hr, hd⟩, h.2⟩
  | _ :: _, _ :: _, i + 1, h => ⟨h.1, GridV.set hr hd i h.2⟩
  | [], _ :: _, _, h => h.elim
  | _ :: _, [], _, h => h.elim
theorem GridV.of {g : List (List Cell)} : ∀ {ys : List V}, ys.length = g.length → (∀ i, i < g.length → ∃ (r : Addr) (vals : List V), ys.getD i .non = .ref r ∧ F r = some (.lst vals) ∧ DpAll c.K F vals ((g.getD i []).map Cell.data)) → GridV c F ys g := by
  induction g with
  | nil => intro ys hl _; rw [List.length_eq_zero_iff.mp hl]; trivial
  | cons l g ih =>
    intro ys hl h
    match ys, hl with
    | y :: ys, hl => exact ⟨h 0 (Nat.succ_pos _), ih (Nat.succ.inj hl) fun i hi => h (i + 1) (Nat.succ_lt_succ hi)⟩
theorem PageAt.grid {F0 : Hp} {ys : List V} {S : Scr} (h : PageAt c F0 F ys S.rows) : GridV c F ys S.grid :=
  GridV.of (by unfold Scr.grid; rw [List.length_map]; exact h.1) fun i hi => by
    have hi' : i < S.rows.length := by unfold Scr.grid at hi; rwa [List.length_map] at hi
    obtain ⟨r, vals, a, _, d, e⟩ := h.2 i hi'
    exact ⟨r, vals, a, d, by rw [Scr.grid_at]; exact e⟩
theorem GridV.gridD {ys : List V} {g : List (List Cell)} {D : Addr} (hD : SqL c.K F D ys) (h : GridV c F ys g) : Dp c.K F (.ref D) (gridD g) := .lst hD h.dp
theorem gridD_sh {g : List (List Cell)} (h : ∀ l ∈ g, ∀ x ∈ l, x.Ok) : Sh 4 (gridD g) := .lst fun d hd => by
  obtain ⟨l, hl, rfl⟩ := List.mem_map.mp hd
  exact cells_sh (h l hl)
theorem grid_ok {S : Scr} (h : S.Ok) : ∀ l ∈ S.grid, ∀ x ∈ l, x.Ok := fun l hl => by
  obtain ⟨p, hp, rfl⟩ := List.mem_map.mp hl
  exact h.rows p hp
end
/-- A COMPREHENSION with a test: the items that pass, by Pi of those so far -/
theorem x_lcT {σ : L2.St} {F H : Hp} {L : List (Addr × HO)} {Q : VK} {J : It} {n : Nat} {item : Nat → V} {g : TG} {tt : TT} {te : TE} {vs : List Nat} (ok : ItOk J F n item) (W : Hold F L H) (hn : n ≤ 100000) (Pi : Nat → List V → Hp → Prop) (mono : ∀ i ys F F', Gr F F' → Pi i ys F → Pi i ys F') (h0 : Pi 0 [] F)
    (step : ∀ (d : Addr × HO) i ys F' H' (QQ : VK) (QN : Hp → Prop), i < n → Same F F' → Pi i ys F' → Hold F' (L ++ [d]) H' → (∀ y F4 H4, Same F' F4 → Hold F4 (L ++ [d]) H4 → Pi (i + 1) (ys ++ [y]) F4 → QQ y H4) → (∀ F4 H4, Same F' F4 → Hold F4 (L ++ [d]) H4 → Pi (i + 1) ys F4 → QN H4) →
      g (item i) (wipe σ vs) H' fun σ2 H2 => wipe σ2 vs = wipe σ vs ∧ tt σ2 H2 fun b H3 => if b = true then te σ2 H3 QQ else QN H3)
    (gm : ∀ x σ H (Q Q' : L2.St → Hp → Prop), (∀ σ' H', Q σ' H' → Q' σ' H') → g x σ H Q → g x σ H Q')
    (dn : ∀ (D : Addr) (ys : List V) (F' H' : Hp), Same F F' → Pi n ys F' → Hold F' ((D, .lst ys) :: L) H' → Q (.ref D) H') : aLc J g tt te vs σ H Q := by
  intro D hD
  refine ⟨fun i m H' => m = n - i ∧ i ≤ n ∧ ∃ ys F', Same F F' ∧ ys.length ≤ i ∧ Pi i ys F' ∧ Hold F' ((D, .lst ys) :: L) H', ⟨n, by simp, Nat.zero_le _, [], F, Same.refl F, Nat.le_refl _, h0, W.make hD⟩, ?_⟩
  rintro i m H1 ⟨rfl, hi, ys, F1, s1, hl, hv, W1⟩
  have q : Gr F H1 := (Gr.of s1).trans W1.gr
  by_cases hlt : i < n
  · refine .inr ⟨ok.go i H1 q hlt, fun H' => ∃ ys F', Same F F' ∧ ys.length ≤ i + 1 ∧ Pi (i + 1) ys F' ∧ Hold F' ((D, .lst ys) :: L) H', fun H' p' => ⟨n - (i + 1), by omega, rfl, hlt, p'⟩, fun x H' y => ?_⟩
    obtain ⟨rfl, rfl⟩ := ok.yld i H1 x H' q hlt y
    have W2 : Hold F1 (L ++ [(D, .lst ys)]) H' := W1.perm (List.perm_append_singleton _ _).symm
    refine step (D, .lst ys) i ys F1 H' (fun y H4 => ∃ acc, H4 D = some (.lst acc) ∧ acc.length < sizeLine ∧ (∃ ys F', Same F F' ∧ ys.length ≤ i + 1 ∧ Pi (i + 1) ys F' ∧ Hold F' ((D, .lst ys) :: L) (upd H4 D (.lst (acc ++ [y])))))
      (fun H' => ∃ ys F', Same F F' ∧ ys.length ≤ i + 1 ∧ Pi (i + 1) ys F' ∧ Hold F' ((D, .lst ys) :: L) H') hlt s1 hv W2 ?_ ?_
    · intro v F4 H4 s4 W4 hv4
      have W5 : Hold F4 ((D, .lst ys) :: L) H4 := W4.perm (List.perm_append_singleton _ _)
      exact ⟨ys, W5.get0, szlt (by omega), ys ++ [v], F4, s1.trans s4, by rw [List.length_append]; exact Nat.succ_le_succ hl, hv4, W5.put0⟩
    · intro F4 H4 s4 W4 hv4
      exact ⟨ys, F4, s1.trans s4, Nat.le_succ_of_le hl, hv4, W4.perm (List.perm_append_singleton _ _)⟩
  · have e : i = n := by omega
    subst e
    exact .inl ⟨ok.stop H1 q, dn D ys F1 H1 s1 hv W1⟩
/-- numbers that are powers -/
theorem l_powN {a b n : Nat} {H : Hp} {Q : VK} (hc : CPow (a : Int) (b : Int)) (e : a ^ b = n) (h : Q (.int (n : Nat)) H) : uPow (.int (a : Nat)) (.int (b : Nat)) H Q := l_powI hc (by rw [Int.toNat_natCast, ← Int.natCast_pow, e]; exact h)
theorem n_mid {K : PySem.W.Frag} {H F : Hp} {L : List (Addr × HO)} {Q : VK} {p : Addr} {xs : List V} {i j : Nat} (W : Hold F L H) (hp : SqL K H p xs) (k : ∀ (r : Addr) (F' H' : Hp), Same F F' → F' r = some (.lst ((xs.drop i).take (j - i))) → Hold F' L H' → Q (.ref r) H') : uSl K (.ref p) (some (i : Int)) (some (j : Int)) H Q :=
  n_slF W hp fun r F' H' s h W' => k r F' H' s (by rw [cutV_L, cutL_mid] at h; exact h) W'
/-- an own list's i-th item is another one -/
theorem x_setD {F H : Hp} {L : List (Addr × HO)} {D : Addr} {ys : List V} {i : Nat} {v : V} {QH : Hp → Prop} (W : Hold F ((D, .lst ys) :: L) H) (hi : i < ys.length) (q : ∀ H', Hold F ((D, .lst (ys.set i v)) :: L) H' → QH H') : rSetL (.ref D) (.int (i : Int)) v H QH :=
  x_setL W.get0 hi (q _ W.put0)
theorem scrL_in {c : Ctx} {F H : Hp} {s D : Addr} {C : ScrC} {S : Scr} {o : HO} {L : List (Addr × HO)} (W : Hold F (scrL c s C S ((D, o) :: L)) H) : H D = some o :=
  W.own (D, o) (List.mem_cons_of_mem _ (List.mem_cons_of_mem _ (List.mem_append_right _ List.mem_cons_self)))
theorem scrL_back {c : Ctx} {F H : Hp} {s : Addr} {x : Addr × HO} {C : ScrC} {S : Scr} {L : List (Addr × HO)} (W : Hold F (scrL c s C S (x :: L)) H) : Hold F (x :: scrL c s C S L) H := W.perm (scrL_out x).symm
theorem scrL_forth {c : Ctx} {F H : Hp} {s : Addr} {x : Addr × HO} {C : ScrC} {S : Scr} {L : List (Addr × HO)} (W : Hold F (x :: scrL c s C S L) H) : Hold F (scrL c s C S (x :: L)) H := W.perm (scrL_out x)
theorem rep_dp {K : PySem.W.Frag} {F : Hp} {v : V} (h : Dp K F v blankCell.data) (n : Nat) : DpAll K F (List.replicate n v) ((List.replicate n blankCell).map Cell.data) := by
  rw [List.map_replicate]; exact dp_rep h n
theorem dp_take {K : PySem.W.Frag} {F : Hp} {vs : List V} {l : List Cell} (n : Nat) (h : DpAll K F vs (l.map Cell.data)) : DpAll K F (vs.take n) ((l.take n).map Cell.data) := by
  rw [List.map_take]; exact dpAll_take n h
theorem dp_drop {K : PySem.W.Frag} {F : Hp} {vs : List V} {l : List Cell} (n : Nat) (h : DpAll K F vs (l.map Cell.data)) : DpAll K F (vs.drop n) ((l.drop n).map Cell.data) := by
  rw [List.map_drop]; exact dpAll_drop n h
theorem dp_app {K : PySem.W.Frag} {F : Hp} {vs ws : List V} {l m : List Cell} (h1 : DpAll K F vs (l.map Cell.data)) (h2 : DpAll K F ws (m.map Cell.data)) : DpAll K F (vs ++ ws) ((l ++ m).map Cell.data) := by
  rw [List.map_append]; exact dpAll_app h1 h2
theorem x_chainLe {σ : L2.St} {i : Nat} {x y z : Int} {H : Hp} {QB : VK} (hz : σ[i]? = some (some (.int z))) (q : QB (.bl (decide (x ≤ y ∧ y ≤ z))) H) : if decide (x ≤ y) = true then tVar i σ H (fun w' H4 => uLe (.int y) w' H4 QB) else QB (.bl false) H := by
  by_cases h1 : x ≤ y
  · rw [if_pos (decide_eq_true h1)]
    refine x_var hz (l_leI ?_)
    rw [show decide (y ≤ z) = decide (x ≤ y ∧ y ≤ z) by rw [Bool.eq_iff_iff, decide_eq_true_eq, decide_eq_true_eq]; exact ⟨fun h => ⟨h1, h⟩, fun h => h.2⟩]
    exact q
  · rw [if_neg (by simpa using h1)]
    rw [decide_eq_false (fun h => h1 h.1)] at q
    exact q
/-- if .. else .. with one promise -/
theorem x_ifP {ta tb : TE} {σ : L2.St} {H : Hp} {Q : VK} {b : Bool} (P : VK → Prop) (h1 : b = true → ∀ Q : VK, P Q → ta σ H Q) (h2 : b = false → ∀ Q : VK, P Q → tb σ H Q) (q : P Q) : if b = true then ta σ H Q else tb σ H Q := by
  cases b with
  | true => rw [if_pos rfl]; exact h1 rfl _ q
  | false => rw [if_neg Bool.false_ne_true]; exact h2 rfl _ q
theorem x_par3 {i j l : Nat} {tr : TA} {σ : L2.St} {H : Hp} {nx bk ct : L2.St → Hp → Prop} {rt : VK} (h : tr σ H fun vs H1 => ∃ u v w, vs = [u, v, w] ∧ nx (((σ.set i (some u)).set j (some v)).set l (some w)) H1) : tPar3 i j l tr ⟨nx, rt, bk, ct⟩ σ H := h
theorem x_par3' {u v w : V} {R : V → V → V → Prop} (h : R u v w) : ∃ u' v' w', [u, v, w] = [u', v', w'] ∧ R u' v' w' := ⟨u, v, w, rfl, h⟩
/-! ### lists of texts -/
abbrev SV (ls : List (List Nat)) : List V := ls.map fun l => .str (T l)
def svD (ls : List (List Nat)) : PyData := .list (ls.map fun l => .str (T l))
section
variable {K : PySem.W.Frag} {F H : Hp} {L : List (Addr × HO)} {Q : VK} {p q : Addr} {ls ms : List (List Nat)} {i j : Nat}
theorem sv_dpAll (ls : List (List Nat)) : DpAll K F (SV ls) (ls.map fun l => .str (T l)) := by
  induction ls with
  | nil => exact .nil
  | cons p l ih => exact .cons (.str _) ih
theorem sv_dp (h : SqL K F p (SV ls)) : Dp K F (.ref p) (svD ls) := .lst h (sv_dpAll ls)
theorem sv_sh (h : ∀ l ∈ ls, ∀ x ∈ l, x < 1114112) : Sh 1 (svD ls) := .lst fun d hd => by
  obtain ⟨l, hl, rfl⟩ := List.mem_map.mp hd
  exact .str (h l hl)
theorem n_toS (W : Hold F L H) (hp : H p = some (.lst (SV ls))) (k : ∀ (r : Addr) (F' H' : Hp), Same F F' → F' r = some (.lst (SV (ls.take i))) → Hold F' L H' → Q (.ref r) H') : uSl K (.ref p) none (some (i : Int)) H Q :=
  n_to W hp fun r F' H' s h W' => k r F' H' s (by rw [h, ← List.map_take]) W'
theorem n_fromS (W : Hold F L H) (hp : H p = some (.lst (SV ls))) (k : ∀ (r : Addr) (F' H' : Hp), Same F F' → F' r = some (.lst (SV (ls.drop i))) → Hold F' L H' → Q (.ref r) H') : uSl K (.ref p) (some (i : Int)) none H Q :=
  n_from W hp fun r F' H' s h W' => k r F' H' s (by rw [h, ← List.map_drop]) W'
theorem n_midS (W : Hold F L H) (hp : H p = some (.lst (SV ls))) (k : ∀ (r : Addr) (F' H' : Hp), Same F F' → F' r = some (.lst (SV ((ls.drop i).take (j - i)))) → Hold F' L H' → Q (.ref r) H') : uSl K (.ref p) (some (i : Int)) (some (j : Int)) H Q :=
  n_mid W (sq_of hp) fun r F' H' s h W' => k r F' H' s (by rw [h, ← List.map_drop, ← List.map_take]) W'
theorem n_addS (W : Hold F L H) (hp : H p = some (.lst (SV ls))) (hq : H q = some (.lst (SV ms))) (hl : ls.length + ms.length ≤ 100000) (k : ∀ (r : Addr) (F' H' : Hp), Same F F' → F' r = some (.lst (SV (ls ++ ms))) → Hold F' L H' → Q (.ref r) H') : uAdd K (.ref p) (.ref q) H Q :=
  n_addF W hp hq (by rw [List.length_map, List.length_map]; exact szl hl) fun r F' H' s h W' => k r F' H' s (by rw [h, ← List.map_append]) W'
theorem l_lenSV (hp : H p = some (.lst (SV ls))) (h : Q (.int (ls.length : Nat)) H) : uLen K [.ref p] H Q := l_lenL (sq_of hp) (by rw [List.length_map]; exact h)
theorem strs_of {P : List Nat → Prop} {n : Nat} : ∀ {ys : List V}, ys.length = n → (∀ i, i < n → ∃ l, ys.getD i .non = .str (T l) ∧ P l) → ∃ ls : List (List Nat), ls.length = n ∧ ys = SV ls ∧ ∀ l ∈ ls, P l := by
  induction n with
  | zero => intro ys hl _; exact ⟨[], rfl, List.length_eq_zero_iff.mp hl, fun _ z => nomatch z⟩
  | succ n ih =>
    intro ys hl h
    match ys, hl with
    | y :: ys, hl =>
      obtain ⟨l, e, hp⟩ := h 0 (Nat.succ_pos _)
      obtain ⟨ls, h1, h2, h3⟩ := ih (Nat.succ.inj hl) fun i hi => h (i + 1) (Nat.succ_lt_succ hi)
      refine ⟨l :: ls, congrArg Nat.succ h1, ?_, fun x hx => ?_⟩
      · have e' : y = .str (T l) := e
        rw [e', h2]; rfl
      · rcases List.mem_cons.mp hx with rfl | hx
        · exact hp
        · exact h3 x hx
theorem l_neSV (h1 : SqL K H p (SV ls)) (h2 : SqL K H q (SV ms)) (e : ls = ms) (hs : ∀ l ∈ ls, ∀ x ∈ l, x < 1114112) (kk : Q (.bl false) H) : uNe K (.ref p) (.ref q) H Q := by
  subst e
  have sh := sv_sh hs
  refine l_neD (sv_dp h1) (sv_dp h2) (sh.shaped (by decide)) (sh.shaped (by decide)) ?_
  rw [sh.eqv]; exact kk
end
end Ss
/-! ## Refusals 1: what runs while an exception is handled -/
namespace Ss
open PySem PySem.Spec PyProof.Rows L2
/-- the object at x bears no context -/
def NoCtx (x : Addr) (h : Heap) : Prop := ∃ (o : Obj) (vs : Array Value), h.get? x = some o ∧ o.data = .fields vs ∧ vs[2]? = some .none
theorem NoCtx.keeps {x : Addr} {h h' : Heap} (c : NoCtx x h) (k : ∀ o, h.get? x = some o → h'.get? x = some o) : NoCtx x h' := by
  obtain ⟨o, vs, a, b, d⟩ := c
  exact ⟨o, vs, k o a, b, d⟩
section
variable {prog : Program} {w : World} {A : Around} {E : Value → Shared → Prop} {s : Shared}
/-- a list's iterator is at its end: the StopIteration gets the handled one as its context -/
theorem hot_end {it l x : Addr} {i : Nat} {items : Array Value} {Q : Option Value → Shared → Prop} (hh : A.handled = some (.ref x)) (hx : NoCtx x s.heap) (hit : s.heap.IsListIter it l i) (hl : s.heap.IsList l items) (hn : items[i]? = none)
    (k : ∀ h', Heap.ExtBut it s.heap h' → Q none { s with heap := h' }) : wpAny (model prog w) A (pyNext (.ref it)) Q E s := by
  obtain ⟨ox, vx, gx, dx, cx⟩ := hx
  obtain ⟨oi, gi, ci, di⟩ := id hit
  obtain ⟨ol, gl, _, nl, dl⟩ := hl
  have ne : it ≠ x := fun z => by
    rw [← z, gi] at gx; cases gx
    rw [di] at dx; cases dx
    simp at cx
  unfold pyNext
  refine wpAny_bind (wpAny_attempt ?_)
  refine wpAny_callSpecial?_slot (name := Str.ofString "__next__") hit.typeIs slot_listiter_next ?_
  refine wpAny_call_entry slot_listiter_next hit.typeIs entry_listiter_next ?_ (args_listiter_next _)
  show wpAny _ _ (field (.ref it) 0 >>= _) _ _ s
  refine wpAny_bind (wpAny_field gi di (x := .ref l) rfl ?_)
  have nz : ¬ ((Value.ref l == Value.none) = true) := Bool.false_ne_true
  show wpAny _ _ (if (Value.ref l == Value.none) = true then _ else _) _ _ s
  rw [if_neg nz]
  show wpAny _ _ (field (.ref it) 1 >>= _) _ _ s
  refine wpAny_bind (wpAny_field gi di (x := .int i 0) rfl ?_)
  show wpAny _ _ (seqItems? (.ref l) >>= _) _ _ s
  refine wpAny_bind (wpAny_seqItems gl dl ?_)
  simp only [Int.toNat_natCast, hn]
  refine wpAny_bind (wpAny_rule ?_)
  refine wpAny_bind (wpAny_setField gi di (by simp) ?_)
  show wpAny _ _ (newExc (.type "StopIteration") [] >>= _) _ _ _
  refine wpAny_bind ?_
  simp only [newExc, newTuple]
  refine wpAny_bind (wpAny_newObj_type ?_ (by size_fits))
  refine wpAny_bind (m := firstArgMember _ _) (wpAny_of_eq (a := Value.none) ?_ ?_)
  · first | rfl | (simp only [firstArgMember]; rfl)
  refine wpAny_newObj_type ?_ (by size_fits)
  have gx2 := (Heap.get?_update_other s.heap (Obj.mapFields (·.setIfInBounds 0 Value.none)) ne).trans gx
  refine HotX.raiseNew_hot (x1 := x) ⟨hh, ox, vx, Heap.get?_push_of_some _ (Heap.get?_push_of_some _ gx2), dx, cx⟩ ?_ (Heap.get?_push_size _ rfl) rfl ?_ ?_
  · exact Nat.ne_of_lt (Heap.lt_size (Heap.get?_push_of_some _ gx2))
  · first | (simp; done) | (simp; omega)
  refine wpAny_bind (wpAny_isInstance (T := "StopIteration") (b := true) ⟨_, Heap.get?_update_self _ (Heap.get?_push_size _ rfl) rfl, rfl⟩ isSubtype_stop ?_)
  refine wpAny_pure (k _ fun b o hb e => ?_)
  have e2 := Heap.get?_push_of_some (h := s.heap.update it (Obj.mapFields (·.setIfInBounds 0 Value.none))) { cls := .type "tuple", data := .seq #[] } ((Heap.get?_update_other s.heap (Obj.mapFields (·.setIfInBounds 0 Value.none)) (Ne.symm hb)).trans e)
  rw [Heap.get?_update_other _ _ (Nat.ne_of_gt (Heap.lt_size e2))]
  exact Heap.get?_push_of_some _ e2
/-- a list walked while x is handled -/
theorem hot_walk {x it l : Addr} {items : Array Value} (hh : A.handled = some (.ref x)) (nl : l ≠ it) (nx : x ≠ it) :
    Walks prog w A it [it, l, x] [it] items.size (fun i v => items[i]? = some v) (fun i h => h.IsListIter it l i ∧ h.IsList l items ∧ NoCtx x h) where
  sub := fun b hb => by
    rw [List.mem_singleton] at hb
    rw [hb]; exact List.mem_cons_self
  frame := fun _ _ _ st hk => ⟨st.1.at fun o e => hk it (by simp) o e, st.2.1.at fun o e => hk l (by simp) o e, st.2.2.keeps fun o e => hk x (by simp) o e⟩
  item := fun i s Q E hi st hQ => by
    refine wpAny_pyNext_list_item st.1 st.2.1 (x := items[i]) (by simp [hi]) fun h' a sb => ?_
    refine hQ _ h' s.toks (by simp [hi]) ⟨a, st.2.1.extBut sb.extBut nl, st.2.2.keeps fun o e => sb.extBut x o nx e⟩ fun b o hb e => ?_
    exact sb.extBut b o (fun z => hb (by simp [z])) e
  done := fun s Q E st hQ => hot_end hh st.2.2 st.1 st.2.1 (by simp) fun h' e => hQ h' s.toks fun b o hb z => e b o (fun q => hb (by simp [q])) z
  self := fun _ _ _ _ st hQ => wpAny_pyIter_listiter st.1 hQ
/-- sum of a list of ints -/
theorem hot_sum {x l : Addr} {its : List Value} {ns : List Int} {Q : Value → Shared → Prop} (hh : A.handled = some (.ref x)) (hx : NoCtx x s.heap) (hl : s.heap.IsList l its.toArray) (hi : IntsAre its ns)
    (k : ∀ h' tk t', (∀ b o, s.heap.get? b = some o → h'.get? b = some o) → Q (.int ns.sum t') { s with heap := h', toks := tk }) : wpAny (model prog w) A (call (.builtin "sum") [.ref l]) Q E s := by
  obtain ⟨xs, ex⟩ := hi.allInts.items
  have en : numsOf (intItems xs).toList = ns := by
    rw [← ex]; exact hi.numsOf
  rw [nums_intItems] at en
  rw [ex] at hl
  refine PySem.call_sum_walkG (PySem.iter_intList hl fun s2 e2 st hb nl => ?_)
  subst e2
  have lx : x < s.heap.objs.size := by
    obtain ⟨o, _, e, _⟩ := hx
    exact Heap.lt_size e
  refine ⟨_, _, _, _, _, _, numAt xs, rfl, hot_walk (A := A.in1) (x := x) hh nl (Nat.ne_of_lt lx), ⟨st.1, st.2, hx.keeps fun o e => Heap.get?_push_of_some _ e⟩, fun b hm => ?_, fun _ _ => intItems_at, fun h' tk t' hk => ?_⟩
  · rcases List.mem_cons.mp hm with z | hm
    · exact hb b (by rw [z]; exact List.mem_cons_self)
    rcases List.mem_cons.mp hm with z | hm
    · exact hb b (by rw [z]; exact List.mem_cons_of_mem _ List.mem_cons_self)
    · rw [List.mem_singleton.mp hm]
      show x < (s.heap.push _).objs.size
      rw [Heap.size_push]; exact Nat.lt_succ_of_lt lx
  · have q := k h' tk t' (PySem.old_kept hk)
    have e3 : preSum (numAt xs) (intItems xs).size = ns.sum := by
      have e4 : (intItems xs).size = xs.size := by simp [intItems]
      rw [e4, preSum_eq, List.take_of_length_le (by simp), en]
    rw [e3]; exact q
end
/-- ints of truths -/
def tBits (i : Nat) : TE := fun σ H Q => ∃ (a : Addr) (bs : List Bool), σ[i]? = some (some (.ref a)) ∧ H a = some (.lst (bs.map V.bl)) ∧ ∀ D, H D = none → Q (.ref D) (upd H D (.lst (bs.map fun b => V.int (if b then 1 else 0))))
theorem vals_bls : ∀ {bs : List Bool} {us : List Value}, Vals (bs.map V.bl) us → us = bs.map Value.bool
  | [], _, .nil => rfl
  | b :: bs, _, .cons r t => by
    rw [vals_bls t]
    cases r; rfl
theorem paired_bits {F : Value → Value → Prop} (hF : ∀ u v, F u v → ∃ b, u = .bool b ∧ ∃ t, v = .int (if b then 1 else 0) t) : ∀ {bs : List Bool} {ys : List Value}, Paired F (bs.map Value.bool) ys → Vals (bs.map fun b => V.int (if b then 1 else 0)) ys
  | [], _, .nil => .nil
  | b :: bs, _, .cons r t => by
    obtain ⟨b', e1, t', e2⟩ := hF _ _ r
    cases e1
    exact .cons ⟨t', e2⟩ (paired_bits hF t)
theorem list_of_get {α : Type} : ∀ {l m : List α}, l.length = m.length → (∀ (j : Nat) v, l[j]? = some v → m[j]? = some v) → l = m := fun {l m} hl h => List.ext_getElem? fun j => by
  cases e : l[j]? with
  | some v => exact (h j v e).symm
  | none => rw [List.getElem?_eq_none_iff] at e; rw [List.getElem?_eq_none_iff.mpr (by omega)]
/-- [int(z) for z in y], an exception being handled -/
theorem pe_bits {X : Cx} {i : Nat} {y z : Str} {q1 q2 q3 q4 q5 pos : Pos} {scope : Scope} (hot : L2H.HotC X) (hN : X.N[i]? = some y) (hv : Vis X.env.scope y) (hm : X.mg "int" = none) (hk : scope.kind = .function) (h1 : ∀ y ∈ scope.names, y.2 ≠ .free) (h2 : ∀ y ∈ scope.names, y.2 ≠ .cell)
    (h3 : ∀ y ∈ scope.names, y.2 = .local → scope.names.lookup y.1 = some .local) (h4 : scope.names.lookup z = some .local) (h5 : scope.names.lookup ("int" : Str) = some .globalImplicit) (hd1 : (y == ("__debug__" : Str)) = false := by decide) (hd2 : (y == ("__classdict__" : Str)) = false := by decide) (hd3 : (z == ("__debug__" : Str)) = false := by decide) :
    PE X (.ListComp (.Call (.Name "int" q1) [.Name z q2] [] q3) [⟨.Name z q4, .Name y q5, [], 0⟩] scope pos) (tBits i) := by
  refine ⟨fun pins s σ H Q I h => ?_⟩
  obtain ⟨a, bs, ha, hl, q⟩ := h
  obtain ⟨x, hx⟩ := hot.at I
  obtain ⟨hh, nc⟩ := hx
  refine wpAny_ListComp_walk (fun _ => true) (fun u v => ∃ b, u = .bool b ∧ ∃ t, v = .int (if b then 1 else 0) t) h1 h2 hk h3 h4 ?_
  refine thn ((pe_var (pos := q5) hN hv hd1 hd2).run pins s σ H (fun v H1 => v = .ref a ∧ H1 = H) I ⟨.ref a, ha, rfl, rfl⟩) fun u s1 hu => ?_
  obtain ⟨v, H1, I1, r1, ev, eH⟩ := hu
  subst ev
  rw [eH] at I1
  obtain rfl : u = Value.ref a := r1
  obtain ⟨hz, its, n, rv, ho⟩ := I1.hok a _ hl
  have eb := vals_bls rv
  have nc1 : NoCtx x s1.heap := by
    obtain ⟨x2, hh2, o, vs, g, d, c⟩ := hot.at I1
    rw [hh] at hh2
    cases hh2
    exact ⟨o, vs, g, d, c⟩
  have il : s1.heap.IsList a its.toArray := ⟨_, ho, rfl, n, rfl⟩
  refine wpAny_pyIter_list il ?_
  have sz : its.length = bs.length := by rw [eb, List.length_map]
  have lx : x < s1.heap.objs.size := by
    obtain ⟨o, _, e, _⟩ := nc1
    exact Heap.lt_size e
  have la : a < s1.heap.objs.size := Heap.lt_size ho
  have up : ∀ b o, s1.heap.get? b = some o → (s1.heap.push { cls := .type "list_iterator", data := .fields #[.ref a, .int 0 0] }).get? b = some o := fun b o e => Heap.get?_push_of_some _ e
  refine ⟨s1.heap.objs.size, [s1.heap.objs.size, a, x], [s1.heap.objs.size], its.toArray.size, _, _, rfl, hot_walk hh (Nat.ne_of_lt la) (Nat.ne_of_lt lx), ?_, ⟨⟨_, Heap.get?_push_size _ rfl, rfl, rfl⟩, ⟨_, up _ _ ho, rfl, n, rfl⟩, nc1.keeps fun o e => up _ _ e⟩, fun b hb => ?_, ⟨?_, ?_⟩, fun D h' tk ys vs hD hl' hp hn hP hF hkp => ?_⟩
  · rw [List.size_toArray, sz, ← List.length_map (f := V.bl)]; exact hz
  · show b < (s1.heap.push _).objs.size
    rw [Heap.size_push]
    rcases List.mem_cons.mp hb with e | hb
    · rw [e]; exact Nat.lt_succ_self _
    rcases List.mem_cons.mp hb with e | hb
    · rw [e]; exact Nat.lt_succ_of_lt la
    · rw [List.mem_singleton.mp hb]; exact Nat.lt_succ_of_lt lx
  · intro C i v s3 m3 E' _ _ _ _ _
    exact wpAny_tests_nil ⟨rfl, s3.heap, s3.toks, rfl, fun _ _ e => e⟩
  · intro C j v s3 m3 E' hPv _ hns hmx hkeep _
    have kb : ∀ b o, X.base.get? b = some o → s3.heap.get? b = some o := fun b o e => by
      have e1 := I1.bk b o e
      refine hkeep b o (fun hb => ?_) (up b o e1)
      rw [List.mem_singleton] at hb
      exact absurd (Heap.lt_size e1) (by rw [hb]; exact Nat.lt_irrefl _)
    obtain ⟨mb, g1, g2⟩ := I1.mod.blt
    refine wpAny_Call_Name_kw (Calls.Name_function_global hk h5 (Calls.loadGlobal_builtin (mg := X.mg) (v := .type "int") ?_ hm (mb := mb) ?_ ((g2 "int" (by decide)).trans (by decide +kernel)) ?_))
    · show s3.heap.Ns X.env.globals X.mg
      rw [I1.ok.glob]; exact I1.mod.glob.keeps kb
    · show s3.heap.Ns X.env.builtins mb
      rw [I1.ok.blt]; exact g1.keeps kb
    have hv2 : ∃ b, v = .bool b := by
      have hv1 : its.toArray[j]? = some v := hPv
      rw [List.getElem?_toArray, eb, List.getElem?_map] at hv1
      cases e : bs[j]? with
      | none => rw [e] at hv1; cases hv1
      | some b => rw [e] at hv1; cases hv1; exact ⟨b, rfl⟩
    obtain ⟨b, rfl⟩ := hv2
    refine PyProof.Rows.callWith_type1 (Calls.spliced_cons (wpAny_Name (wpAny_loadName_local (show (compEnv scope C X.env).scope.kind = .function from hk) h4 hns hmx (Calls.spliced_nil (call_int_bool ?_))) hd3))
    exact ⟨⟨b, rfl, s3.toks, rfl⟩, s3.heap, s3.toks + 1, rfl, fun _ _ e => e⟩
  · have hD1 : s1.heap.get? D = none := by
      cases e : s1.heap.get? D with
      | none => rfl
      | some o => rw [up D o e] at hD; cases hD
    have nD : H D = none := I1.hok.gone hD1
    have kp : ∀ b o, s1.heap.get? b = some o → h'.get? b = some o := fun b o e => hkp b o (fun hb => by
      rw [List.mem_singleton] at hb
      exact absurd (Heap.lt_size e) (by rw [hb]; exact Nat.lt_irrefl _)) (up b o e)
    have ev : vs = its := list_of_get (by rw [hn, List.size_toArray]) fun j v e => by
      have z : its.toArray[j]? = some v := hP j v e
      rw [List.getElem?_toArray] at z; exact z
    have ef : vs.filter (fun _ => true) = vs := List.filter_eq_self.mpr fun _ _ => rfl
    rw [ef, ev, eb] at hF
    have r3 := paired_bits (fun _ _ z => z) hF
    obtain ⟨n', hp'⟩ := hp
    refine ⟨.ref D, _, I1.laidN (t' := tk) (o := .lst (bs.map fun b => V.int (if b then 1 else 0))) kp hD1 nD ⟨?_, ys.toList, n', r3, hp'⟩, rfl, q D nD⟩
    rw [List.length_map, ← List.length_map (f := V.bl)]; exact hz
/-- sum, an exception being handled -/
theorem cr_sumHot {X : Cx} (hot : L2H.HotC X) : CallR X (.builtin "sum") (rSum X.K) := by
  intro pins s σ H vs us Q I r h
  obtain ⟨a, ns, rfl, hs, q⟩ := h
  obtain ⟨x, hh, nc⟩ := hot.at I
  obtain ⟨its, rv, hl, _⟩ := I.list hs
  rw [Vals.ref1 r]
  exact hot_sum hh nc hl.isList rv.ints fun h' tk t' k => ⟨.int _, H, I.kept k, ⟨_, rfl⟩, q⟩
end Ss
/-! ## Refusals 2: raise, a lambda that may raise, _law_told with its handler, _law_word -/
namespace Ss
open PySem PySem.Spec PyProof.Rows L2 LamX
/-! ### defs that raise where nothing is handled -/
theorem ps_rzN {X : Cx} {x : Str} {m : Str} {j : Nat} {p p2 pos pos' : Pos} {C : Addr} {E : XK} (e : ErrX X.K X.mg x C) (tk : L2N.Takes X (fun cls d _ H => E cls d H)) (hc : X.calm = true := by rfl) (hg : Gl X x := by rfl) (hdb : (x == ("__debug__" : Str)) = false := by decide) :
    PS X (.Raise (some (.Call (.Name x p) [.Constant (.str m) j p2] [] pos)) none pos') (tRz C E) := L2N.ps_raise hc tk (L2N.pmk_own PySem.F.excBase_ValueError e.ex e.g e.kp (raises_own e.sub e.ty) hg hdb)
theorem passEN {P : Program} {w : World} {K : PySem.W.Frag} {mg : Str → Option Value} {base : Heap} {N : List Str} {qual : Str} {scope : Scope} {f : Addr} {cd : Value} {A : Around} {outer : List Env} {s : Shared} {H : Hp} {E : XK} :
    Passes (L2N.CX P w) (cxOf (L2N.CX P w) P w K mg base N qual scope f cd A outer s H E) E := L2N.passes_call (L2N.takes_of rfl rfl rfl rfl) (fun _ _ _ _ h => h)
theorem passLN {X : Cx} : Passes (L2N.CX X.prog X.w) X E0 := fun _ _ _ _ _ _ _ h => by
  obtain ⟨_, _, _, _, _, _, _, _, _, _, _, _, z⟩ := h
  exact z.elim
section
variable {P : Program} {w : World} {K : PySem.W.Frag} {mg : Str → Option Value} {base : Heap}
theorem funOkN {x qual : Str} {st : Stmt} {f : Addr} {fd : FuncData} {N ps : List Str} {k : Nat} {sp : Sp} (F : Fun K x qual st f fd) (S : FnScope N ps (defScope st)) (len : ∀ vs H Q E, sp vs H Q E → vs.length = ps.length)
    (hb : ∀ (cdv : Value) (A : Around) (outer : List Env) (s : Shared) (H : Hp) (vs : List V) (Q : VK) (E : XK), Room k (A.deeper (envOfC qual (defScope st) s.heap.objs.size f cdv)) → sp vs H Q E →
      ∃ t, PSs (cxOf (L2N.CX P w) P w K mg base N qual (defScope st) f cdv A outer s H E) (defBody st) t ∧ t { nx := fun _ H' => Q .non H', rt := Q } (start N vs) H) : FnOk P w K mg base (L2N.CX P w) (k + 1) f fd ps sp := by
  obtain ⟨oc, od, kV, doc, pm, an, cdv, ct, osl, rfl, lk, hcd⟩ := F.ex
  exact fn_of lk hcd S len fun A outer s H vs Q E hr hsp => hb cdv A outer s H vs Q E hr hsp
end
/-! ### the lambda -/
/-- the wish of a lambda's body: contexts are told -/
abbrev lamXe (X : Cx) (A : Around) (outer : List Env) (s : Shared) (H : Hp) (E : XK) (scope : Scope) (f c' : Addr) : Value → Shared → Prop := fun e s' =>
  wpAny (model X.prog X.w) (A.deeper (lamEnv X scope s.heap.objs.size f c')) (leaving (lamEnv X scope s.heap.objs.size f c') e) (fun _ s2 => L2N.CX X.prog X.w outer H s E e s2) (fun e2 s2 => L2N.CX X.prog X.w outer H s E e2 s2) s'
abbrev lamN (X : Cx) (A : Around) (outer : List Env) (s : Shared) (H : Hp) (E : XK) (scope : Scope) (f c' : Addr) : Cx := (lamCx X A outer s H E scope f c').wish (lamXe X A outer s H E scope f c')
theorem passLamN {X : Cx} {A : Around} {outer : List Env} {s : Shared} {H : Hp} {E : XK} {scope : Scope} {f c' : Addr} : Passes (L2N.CX X.prog X.w) (lamN X A outer s H E scope f c') E := L2N.passes_call (L2N.takes_of rfl rfl rfl rfl) (fun _ _ _ _ h => h)
/-- the context of the def that gets the lambda -/
abbrev gotCx (X : Cx) (Ng : List Str) (x : Str) (sg : Scope) (g : Addr) (cdg : Value) (s : Shared) (H : Hp) : Cx := cxOf C8.CX0 X.prog X.w X.K X.mg X.base Ng x sg g cdg X.A X.stack s H C8.E0
/-- the lambda's function object -/
abbrev lamO (X : Cx) (params : Arguments) (body : Expr) (scope : Scope) (pm : Value) (c' : Addr) (ctv : Value) : Obj := PySem.W.kla_obj "<lambda>" (X.env.qual ++ "<lambda>") params body scope (cloFrom X.env.cells scope.names []) pm c' ctv
section
variable {X : Cx} {pins : List (Addr × Obj)} {σ : L2.St} {H : Hp} {s : Shared}
theorem pe_actN {Ng : List Str} {x : Str} {sg : Scope} {g f c' : Addr} {cdg pm ctv : Value} {params : Arguments} {body : Expr} {scope : Scope} {k i : Nat} {a : Str} {pn : List (Addr × Obj)} {xe : Value → Shared → Prop} {W : WX} {E : XK} {tb : TE} {p1 p2 : Pos}
    (I : Inv X pins σ H s) (L : LamS X.env.scope scope) (hf : s.heap.get? f = some (lamO X params body scope pm c' ctv)) (hfn : H f = none) (hfr : f ∉ frs X.stack)
    (hbind : bindArgs (PySem.W.kla_fn "<lambda>" (X.env.qual ++ "<lambda>") params body scope (cloFrom X.env.cells scope.names []) pm (.ref c') ctv) ⟨[], []⟩ = pure [])
    (tk : L2N.Takes ((gotCx X Ng x sg g cdg s H).tr pn xe) W) (hW : ∀ cls d σ' H', E cls d H' → W cls d σ' H') (hr : Room (k + 1) (X.A.deeper (envOfC x sg s.heap.objs.size g cdg)))
    (hbody : ∀ (A : Around) (outer : List Env) (s : Shared) (H : Hp), Room k (A.deeper (lamEnv X scope s.heap.objs.size f c')) → PE (lamN X A outer s H E scope f c') body tb)
    (hN : Ng[i]? = some a) (hv : Vis sg a) (hd : (a == ("__debug__" : Str)) = false := by decide) (hcd : (a == ("__classdict__" : Str)) = false := by decide) :
    PE ((gotCx X Ng x sg g cdg s H).tr pn xe) (.Call (.Name a p1) [] [] p2) (fun σ2 H2 Q => σ2[i]? = some (some (.ref f)) ∧ H2 c' = some (CodeO c' (X.env.qual ++ "<lambda>")) ∧ tb σ H2 Q) := by
  refine ⟨fun pins2 s2 σ2 H2 Q I2 ⟨e1, e2, e3⟩ => ?_⟩
  refine wpAny_Call_Name_kw (thn ((pe_var (pos := p1) (i := i) hN hv hd hcd).run pins2 s2 σ2 H2 (fun v H1 => v = .ref f ∧ H1 = H2) I2 ⟨.ref f, e1, rfl, rfl⟩) fun u s1 hu => ?_)
  obtain ⟨v, H1, I1, r1, z1, z2⟩ := hu
  rw [z1] at r1
  rw [z2] at I1
  obtain rfl : u = Value.ref f := r1
  have un : Un (frs X.stack) [] H H2 s.heap s1.heap := I1.base
  have of1 := un.keep f _ hf hfn hfr (fun z => nomatch z)
  refine PySem.W.callWith_F0 ⟨_, _, _, _, of1⟩ ?_
  obtain ⟨⟨oc, vs, t, hoc, hdc, hvc⟩, _, _⟩ := I1.hok c' _ e2
  have rc : codeAny (model X.prog X.w) (X.A.deeper (envOfC x sg s.heap.objs.size g cdg)) (.call (.ref f) ⟨[], []⟩) (CR (L2N.CX X.prog X.w) (envOfC x sg s.heap.objs.size g cdg :: X.stack) X.prog X.w H2 s1 Q E) s1 := by
    refine PySem.W.kla_callFunE hr.depth of1 rfl L.co L.gen rfl ⟨c', oc, vs, t, rfl, hoc, hdc, hvc⟩ ?_
    rw [hbind]
    refine wpAny_pure (wpAny_newFunctionEnv (fun y hy => (L.own y hy).2) (fun _ hy => nomatch hy) (fun h1 hns sb => ⟨I1.nolimit.fresh _ sb, ?_⟩) L.kind)
    have kp : ∀ b o, s1.heap.get? b = some o → h1.get? b = some o := fun b o e => sb.extBut b o (Nat.ne_of_lt (Heap.lt_size e)) (Heap.get?_push_of_some _ e)
    have J0 : Inv (lamCx X (X.A.deeper (envOfC x sg s.heap.objs.size g cdg)) (envOfC x sg s.heap.objs.size g cdg :: X.stack) s1 H2 E scope f c') [] σ H2 { s1 with heap := h1, toks := s1.toks + ([] : List (Str × Value)).length } := lam_start2 I L I1.env0 hr.hd un hns kp
    have J := J0.wish (lamXe X (X.A.deeper (envOfC x sg s.heap.objs.size g cdg)) (envOfC x sg s.heap.objs.size g cdg :: X.stack) s1 H2 E scope f c')
    show codeAny _ _ (.expr body (lamEnv X scope s1.heap.objs.size f c')) _ _
    refine PySem.W.kla_codeExpr (wpAny_mono ((hbody _ _ s1 H2 (hr.deeper _)).run [] _ _ H2 Q J e3) (fun v s' ⟨w', H', J', rv, q⟩ => ?_) fun _ _ q => q)
    exact ⟨w', H', J'.os, J'.bare, J'.base, J'.hok, rv, q⟩
  have hx : Passes (L2N.CX X.prog X.w) ((gotCx X Ng x sg g cdg s H).tr pn xe) E := L2N.passes_call tk hW
  refine wpAny_call (codeAny_mono rc fun r s' hq => ?_)
  cases r with
  | error e => exact hx pins2 σ2 H2 s1 e s' I1 hq
  | ok fl =>
    cases fl with
    | ret u => exact I1.after hq
    | _ => exact False.elim hq
end
/-- as GivesTo, contexts told -/
def GivesN (X : Cx) (Ng : List Str) (x : Str) (sg : Scope) (g : Addr) (cdg : Value) (bg : List Stmt) (a : Str) (q : Str) (TT : (XK → Hp → VK → Prop) → Hp → VK → Prop) : Prop :=
  ∀ (f c' : Addr) (s : Shared) (H : Hp) (Q : VK) (tl : XK → Hp → VK → Prop), X.K.In s.heap → Room 1 (X.A.deeper (envOfC x sg s.heap.objs.size g cdg)) →
    (∀ (W : WX) (pn : List (Addr × Obj)) (xe : Value → Shared → Prop) (E : XK) (p1 p2 : Pos), L2N.Takes ((gotCx X Ng x sg g cdg s H).tr pn xe) W → (∀ cls d σ' H', E cls d H' → W cls d σ' H') →
      PE ((gotCx X Ng x sg g cdg s H).tr pn xe) (.Call (.Name a p1) [] [] p2) (fun σ2 H2 Q => σ2[0]? = some (some (.ref f)) ∧ H2 c' = some (CodeO c' q) ∧ tl E H2 Q)) →
    H c' = some (CodeO c' q) → TT tl H Q → ∃ t, PSs (gotCx X Ng x sg g cdg s H).nox bg t ∧ t { nx := fun _ H' => Q .non H', rt := Q } (L2.start Ng [.ref f]) H
theorem pe_lamcallN {X : Cx} {T : List (Addr × Str)} {TT : (XK → Hp → VK → Prop) → Hp → VK → Prop} {x a : Str} {g c P : Addr} {k : Nat} {pg : Arguments} {bg : List Stmt} {sg : Scope} {dV kV doc pm cdv ct oc : Value} {an od : Option Addr} {osl : Array (Option Value)} {Ng : List Str}
    {params : Arguments} {body : Expr} {scope : Scope} {t : XK → TE} {p lpos pos : Pos} (hg : Gl X x) (hm : X.mg x = some (.ref g)) (hk : PySem.W.keepIn X.K (.ref g) = true)
    (lk : X.K.lookup g = some ⟨oc, od, .func (PySem.W.fnOf x x pg bg sg dV kV doc pm an cdv ct), osl⟩) (hcg : PySem.W.codeIn X.K cdv x = true) (hb : L2.Binds X.K (PySem.W.fnOf x x pg bg sg dV kV doc pm an cdv ct) [a] []) (Sg : FnScope Ng [a] sg) (hNg : Ng[0]? = some a) (hva : Vis sg a)
    (hG : GivesN X Ng x sg g cdv bg a (X.env.qual ++ "<lambda>") TT) (TB : TabB X.base X.mg c P) (hcode : X.env.code = .ref c) (hmT : (P, X.env.qual ++ "<lambda>") ∈ T) (hu : ∀ p ∈ T, p.1 = P → p.2 = X.env.qual ++ "<lambda>")
    (hr : Room (k + 3) X.A) (L : LamS X.env.scope scope) (hdef : defaultsOf params X.env = ([], []))
    (hbind : ∀ (q : Str) (cl : List (Str × Addr)) (pm cv ctv : Value), bindArgs (PySem.W.kla_fn "<lambda>" q params body scope cl pm cv ctv) ⟨[], []⟩ = pure [])
    (hbody : ∀ (A : Around) (outer : List Env) (s : Shared) (H : Hp) (E : XK) (f c' : Addr), Room (k + 1) (A.deeper (lamEnv X scope s.heap.objs.size f c')) → PE (lamN X A outer s H E scope f c') body (t E))
    (hdb : (x == ("__debug__" : Str)) = false := by decide) (hd : (a == ("__debug__" : Str)) = false := by decide) (hcd : (a == ("__classdict__" : Str)) = false := by decide) :
    PE X (.Call (.Name x p) [.Lambda params body scope lpos] [] pos) (tLam T TT t) := by
  refine ⟨fun pins s σ H Q I h => ?_⟩
  obtain ⟨hT, h⟩ := h
  refine wpAny_Call_Name_kw (ld_glob I hg hm (PySem.W.callWith_K (h₀ := X.base) I.ok.mod.kin hk ?_ (by rfl) (by rfl)) hdb)
  show wpAny _ _ (spliced ((false, eval (.Lambda params body scope lpos) X.env) :: backTo pos (starEach [] X.env))) _ _ s
  refine Calls.spliced_cons (lam_make2 I TB hcode hmT hu hT hdef (L.has I.ok) fun f c' pm' ctv H1 s' I1 eN T1 hf hfn hfr hco => Calls.spliced_nil ⟨I1.kIn, ?_⟩)
  have rc : codeAny (model X.prog X.w) X.A (.call (.ref g) ⟨[.ref f], []⟩) (CR C8.CX0 X.stack X.prog X.w H1 s' Q C8.E0) s' := by
    refine run_ofS (k := k + 2) (N := Ng) (ps := [a]) (us := [.ref f]) (vs := [.ref f]) lk hcg Sg hr I1.env0 (hb s' [.ref f] I1.kIn rfl) (.cons rfl .nil) rfl fun hr' => ?_
    obtain ⟨t', ht', hq'⟩ := hG f c' s' H1 Q (fun E H' Q' => t E σ H' Q') I1.kIn (hr'.mono (by omega))
      (fun W pn xe E p1 p2 tk hW => pe_actN (i := 0) I1 L hf hfn hfr (hbind _ _ _ _ _) tk hW hr' (fun A outer s H hr2 => hbody A outer s H E f c' hr2) hNg hva hd hcd) hco (h H1 eN T1)
    exact ⟨t', ht'.nox, hq'⟩
  refine wpAny_call (codeAny_mono rc fun r s2 hq => ?_)
  cases r with
  | error e => exact (show False from hq).elim
  | ok fl =>
    cases fl with
    | ret u => exact I1.after hq
    | _ => exact False.elim hq
/-! ### what is told of a refusal -/
abbrev sRefused : Str := T [114, 101, 102, 117, 115, 101, 100]
/-- what is wanted of a refusal by a class of B: the pair ("refused", its name) -/
def EW (B : List (Addr × Str)) (Q : VK) : XK := fun cls d H => d = none ∧ ∃ x ∈ B, cls = .ref x.1 ∧ ∀ q H', Same H H' → H q = none → H' q = some (.tup [.str sRefused, .str x.2]) → Q (.ref q) H'
def TT1 (B : List (Addr × Str)) : (XK → Hp → VK → Prop) → Hp → VK → Prop := fun tl H Q => tl (EW B Q) H Q
/-- what the classes of B are -/
structure BadsOk (K : PySem.W.Frag) (B : List (Addr × Str)) (CS : Addr) : Prop where
  exc : ∀ x ∈ B, ExcC K x.1
  kit : ∀ x ∈ B, ∀ y ∈ B, PySem.W.kitOne K (.ref x.1) (.ref y.1) = some (decide (y.2 = x.2))
  val : ∀ x ∈ B, PySem.W.kitOne K (.ref x.1) (.type "ValueError") = some true
  exm : ∀ x ∈ B, PySem.W.exmOne K (.ref x.1) (.ref CS) = some true
/-- the def _law_word, called with the exception that is handled -/
structure WordOk (P : Program) (w : World) (K : PySem.W.Frag) (mg : Str → Option Value) (base : Heap) (B : List (Addr × Str)) : Prop where
  ex : ∃ (f : Addr), mg "_law_word" = some (.ref f) ∧ PySem.W.keepIn K (.ref f) = true ∧ ∀ (A : Around) (outer : List Env) (s : Shared) (H : Hp) (a : Addr) (oe : Obj) (Q : VK) (x : Addr × Str), x ∈ B → L2H.RoomH 1 A → A.handled = some (.ref a) → L2H.PinOk outer H s (a, oe) →
    L2N.Zn (.ref x.1) none oe → (∃ vs, oe.data = .fields vs) → Env0 P w K mg base A outer s H → (∀ q H', Same H H' → H q = none → H' q = some (.tup [.str sRefused, .str x.2]) → Q (.ref q) H') →
    codeAny (model P w) A (.call (.ref f) ⟨[.ref a], []⟩) (CR C8.CX0 outer P w H s Q C8.E0) s
/-- _law_word(e), where e is handled -/
theorem pe_word {X : Cx} {B : List (Addr × Str)} {a : Addr} {oe : Obj} {pn : List (Addr × Obj)} {j : Nat} {n : Str} {x : Addr × Str} {p p2 pos : Pos} (W : WordOk X.prog X.w X.K X.mg X.base B) (hx : x ∈ B) (hz : L2N.Zn (.ref x.1) none oe) (hd : ∃ vs, oe.data = .fields vs) (hr : L2H.RoomH 1 X.A)
    (hN : X.N[j]? = some n) (hv : Vis X.env.scope n) (hg : Gl X "_law_word") (h1 : (n == ("__debug__" : Str)) = false) (h2 : (n == ("__classdict__" : Str)) = false) :
    PE (X.suite a ((a, oe) :: pn)) (.Call (.Name "_law_word" p) [.Name n p2] [] pos) (fun σ H Q => σ[j]? = some (some (.ref a)) ∧ ∀ q H', Same H H' → H q = none → H' q = some (.tup [.str sRefused, .str x.2]) → Q (.ref q) H') := by
  refine ⟨fun pins s σ H Q I ⟨ha, hq⟩ => ?_⟩
  obtain ⟨f, m, kp, run⟩ := W.ex
  refine wpAny_Call_Name_kw (ld_glob I hg m (PySem.W.callWith_K (h₀ := X.base) I.ok.mod.kin kp ?_ (by rfl) (by rfl)) (by decide))
  show wpAny _ _ (spliced ((false, eval (.Name n p2) X.env) :: backTo pos (starEach [] X.env))) _ _ s
  refine Calls.spliced_cons (thn ((pe_var (X := X.suite a ((a, oe) :: pn)) (pos := p2) hN hv h1 h2).run pins s σ H (fun v H1 => v = .ref a ∧ H1 = H) I ⟨.ref a, ha, rfl, rfl⟩) fun u s1 hu => ?_)
  obtain ⟨v, H1, I1, r1, ev, eH⟩ := hu
  rw [ev] at r1
  rw [eH] at I1
  obtain rfl : u = Value.ref a := r1
  refine Calls.spliced_nil ⟨I1.kIn, ?_⟩
  have P1 := I1.pin (a, oe) (List.mem_append_left _ List.mem_cons_self)
  have hpin : L2H.PinOk X.stack H s1 (a, oe) := ⟨P1.1, P1.2.1, fun hm => (List.mem_cons.mp (I1.stkSub a hm)).elim P1.2.2.1 P1.2.2.2.1, P1.2.2.2.2⟩
  have rc := run (X.A.mark (some (.ref a))) X.stack s1 H a oe Q x hx ⟨hr.dp, hr.un⟩ rfl hpin hz hd I1.env0 hq
  refine wpAny_call (codeAny_mono rc fun r s2 hq => ?_)
  cases r with
  | error e => exact (show False from hq).elim
  | ok fl =>
    cases fl with
    | ret u => exact I1.after hq
    | _ => exact False.elim hq
theorem takes0N {X : Cx} : L2N.Takes X (fun _ _ _ _ => False) := fun _ _ x => by
  obtain ⟨_, _, _, _, _, _, _, _, _, _, _, _, _, _, _, _, z⟩ := x
  exact z.elim
/-- try: return a() / except ScreenError as n: return _law_word(n) -/
theorem told1_gives {X : Cx} {B : List (Addr × Str)} {Ng : List Str} {x a e q n : Str} {sg : Scope} {g CS : Addr} {cdg : Value} {p1 p2 p3 p4 p5 p6 p7 p8 p9 p10 : Pos} (W : WordOk X.prog X.w X.K X.mg X.base B) (BO : BadsOk X.K B CS)
    (hN : Ng.Nodup) (hi : Ng[1]? = some n) (hln : sg.names.lookup n = some .local) (hge : sg.names.lookup e = some .globalImplicit) (hme : X.mg e = some (.ref CS)) (hde : (e == ("__debug__" : Str)) = false) (hw : sg.names.lookup ("_law_word" : Str) = some .globalImplicit)
    (hn1 : (n == ("__debug__" : Str)) = false) (hn2 : (n == ("__classdict__" : Str)) = false) (h0 : ∀ f : Addr, (L2.start Ng [V.ref f])[0]? = some (some (V.ref f))) (h1 : 1 < Ng.length) :
    GivesN X Ng x sg g cdg [.Try [.Return (some (.Call (.Name a p1) [] [] p2)) p3] [.ExceptHandler (some (.Name e p4)) (some n) [.Return (some (.Call (.Name "_law_word" p5) [.Name n p6] [] p7)) p9] p10] [] [] p8] a q (TT1 B) := by
  intro f c' s H Q tl hK hr act hc h
  have hgl : Gl (gotCx X Ng x sg g cdg s H).nox e := hge
  refine ⟨_, pss_one (L2N.ps_try_as (X := (gotCx X Ng x sg g cdg s H).nox) (c := .ref CS) (i := 1) (Wout := fun _ _ _ _ => False)
      (tb := fun W D σ H => ∃ Ech : XK, (∀ cls d σ' H', Ech cls d H' → W cls d σ' H') ∧ σ[0]? = some (some (.ref f)) ∧ H c' = some (CodeO c' q) ∧ tl Ech H D.rt)
      (ts := fun a cls d D σ H => (∃ σ0 : L2.St, σ = σ0.set 1 (some (V.ref a))) ∧ EW B D.rt cls d H)
      rfl rfl hN hi hln ⟨hgl, hde, .inl hme⟩ takes0N (fun W pn xe tk _ => ?_) (fun a oe cls d pn hz hd => ?_)), ?_⟩
  · refine ⟨fun pins s' σ H' D I ⟨Ech, hW, z1, z2, z3⟩ => ?_⟩
    have hq := pss_one (ps_ret (pos := p3) (act W pn xe Ech p1 p2 tk hW))
    exact hq.run pins s' σ H' D I ⟨z1, z2, z3⟩
  · refine ⟨fun pins s' σ H' D I ⟨⟨σ0, eσ⟩, ed, y, hy, ec, hq⟩ => ?_⟩
    have ha : σ[1]? = some (some (V.ref a)) := by
      have hl : σ.length = Ng.length := I.len
      rw [eσ, List.length_set] at hl
      rw [eσ, List.getElem?_set_self (by omega)]
    subst ed ec
    have pw := pe_word (X := (gotCx X Ng x sg g cdg s H).nox) (p := p5) (p2 := p6) (pos := p7) (a := a) (pn := pn) W hy hz hd (L2H.roomH_of hr) hi (.inl hln) hw hn1 hn2
    exact (pss_one (ps_ret (pos := p9) pw)).run pins s' σ H' D I ⟨ha, hq⟩
  · refine ⟨EW B Q, fun cls d σ' H' hE => ⟨true, ?_, fun _ a na => ?_, fun z => nomatch z⟩, h0 f, hc, h⟩
    · obtain ⟨_, y, hy, ec, _⟩ := hE
      rw [ec]; exact BO.exm y hy
    · exact ⟨⟨σ', rfl⟩, hE⟩
end Ss
/-! ## Refusals 3: _law_word -/
namespace Ss
open PySem PySem.Spec PyProof.Rows L2 LamX
open Ss in
local macro_rules | `(tactic| walk_at "r") => `(tactic| repeat (first
  | with_reducible refine x_seq ?_ | with_reducible refine x_asg ?_ | with_reducible refine x_var rfl ?_ | with_reducible refine x_c ?_ | with_reducible refine x_op ?_ | with_reducible refine x_name ?_ | with_reducible refine x_gcons ?_ | with_reducible refine x_gnil ?_
  | with_reducible refine x_cons ?_ | with_reducible refine x_nil ?_ | with_reducible refine x_cb ?_ | with_reducible refine x_ifs ?_ | with_reducible refine x_test ?_ | with_reducible refine x_bl ?_
  | with_reducible refine g_addNN ?_ | with_reducible refine g_addNL ?_ | with_reducible refine g_addLN ?_ | with_reducible refine l_addI ?_ | with_reducible refine l_subI ?_ | with_reducible refine g_ltNL ?_ | with_reducible refine l_ltI ?_ | with_reducible refine l_leI ?_ | with_reducible refine l_gtI ?_ | with_reducible refine l_geI ?_ | with_reducible refine l_eqX ?_ | with_reducible refine l_neX ?_ | with_reducible refine g_eqNL ?_ | with_reducible refine l_eqII ?_ | with_reducible refine l_neII ?_ | with_reducible refine l_eq rfl ?_ | with_reducible refine l_ne rfl ?_
  | with_reducible refine x_fld ?_ | with_reducible refine x_ret ?_ | with_reducible refine x_drop ?_ | with_reducible refine x_next ?_ | with_reducible refine x_tup ?_ | with_reducible refine x_lst ?_ | with_reducible refine x_f ?_ | with_reducible refine x_o ?_ | with_reducible refine x_n ?_
  | with_reducible refine x_bm ?_ | with_reducible refine x_bm0 ?_ | with_reducible refine x_m1 ?_ | with_reducible refine x_m0 ?_ | with_reducible refine x_isstr ?_ | with_reducible refine x_tystr ?_ | with_reducible refine x_sl ?_ | with_reducible refine x_part ?_ | with_reducible refine x_part' ?_ | with_reducible refine x_nopart ?_
  | with_reducible refine x_sfld ?_ | with_reducible refine x_if ?_ | with_reducible refine x_isty ?_ | with_reducible refine x_chain ?_ | with_reducible refine x_andV ?_ | with_reducible refine x_orV ?_ | with_reducible refine x_notV ?_ | with_reducible refine x_B ?_ | with_reducible refine x_and ?_ | with_reducible refine x_or ?_ | with_reducible refine x_not ?_ | with_reducible refine x_tru ?_ | with_reducible refine x_yes ?_
  | with_reducible refine x_un ?_ | with_reducible refine x_neg ?_ | with_reducible refine x_par ?_ | with_reducible refine x_par' ?_ | with_reducible refine x_retN ?_ | with_reducible refine x_brk ?_ | with_reducible refine x_cont ?_ | with_reducible refine x_rz ?_
  | with_reducible refine l_leS ?_ | with_reducible refine l_ltS ?_ | with_reducible refine l_inX ?_ | with_reducible refine l_niX ?_ | with_reducible refine l_inS ?_ | with_reducible refine l_niS ?_ | with_reducible refine l_count ?_ | with_reducible refine l_ord ?_ | with_reducible refine l_max ?_ | with_reducible refine l_min ?_ | with_reducible refine l_intI ?_ | with_reducible refine l_intB ?_ | with_reducible refine l_is ?_ | with_reducible refine l_isn ?_
  | with_reducible refine g_modNL (by decide) ?_ | with_reducible refine g_divNL (by decide) (by decide) ?_ | with_reducible refine l_modI (by decide) ?_ | with_reducible refine x_for ?_ | with_reducible refine x_lc ?_ | with_reducible refine x_ilist ?_ | with_reducible refine x_itup ?_ | with_reducible refine x_istr ?_ | with_reducible refine x_istr' ?_ | with_reducible refine x_irng1 ?_ | with_reducible refine x_irng2 ?_
  | (with_reducible refine x_get (by first | assumption | exact Hold.get0 (by assumption) | exact Hold.get1 (by assumption)) (by assumption) (by assumption) (by walk_at "fg") ?_)
  | (with_reducible refine x_ao (by first | assumption | exact Hold.get0 (by assumption) | exact Hold.get1 (by assumption)) (by kernel_rfl) ?_)
  | with_reducible refine x_ienum ?_ | with_reducible refine x_izip ?_ | with_reducible refine x_chain3 ?_
  | (with_reducible refine x_par2 ?_)
  | (with_reducible refine x_par3 ?_) | (with_reducible refine x_par3' ?_)))
def bads4 (c : Ctx) : List (Addr × Str) := [(c.cBadPage, "BadPage"), (c.cBadPlace, "BadPlace"), (c.cBadSize, "BadSize"), (c.cBadText, "BadText")]
def bads7 (c : Ctx) : List (Addr × Str) := bads4 c ++ ([(c.cBadPane, "BadPane"), (c.cBadTick, "BadTick"), (c.cNothing, "Nothing")] : List (Addr × Str))
theorem pick4 : ∀ n ∈ names4, ∃ j ∈ List.range 4, (names4.map fun m => decide (m = n))[j]? = some true ∧ (∀ m, m < j → (names4.map fun m => decide (m = n))[m]? = some false) ∧ ((names4.map fun m => decide (m = n)).map fun b => if b then (1 : Int) else 0).sum = 1 ∧ (names4.map V.str)[j]? = some (.str n) := by decide +kernel
theorem pick7 : ∀ n ∈ names7, ∃ j ∈ List.range 7, (names7.map fun m => decide (m = n))[j]? = some true ∧ (∀ m, m < j → (names7.map fun m => decide (m = n))[m]? = some false) ∧ ((names7.map fun m => decide (m = n)).map fun b => if b then (1 : Int) else 0).sum = 1 ∧ (names7.map V.str)[j]? = some (.str n) := by decide +kernel
/-- the classes, asked of the top -/
theorem oneBadB_ok {K : PySem.W.Frag} {D : Addr} (h : oneBadB K D = true) : ExcC K D := by
  unfold oneBadB at h
  simp only [Bool.and_eq_true, beq_iff_eq] at h
  obtain ⟨⟨⟨⟨⟨⟨⟨h1, h2⟩, h3⟩, h4⟩, h5⟩, h6⟩, h7⟩, h8⟩ := h
  exact ⟨h1, h2, h3, h4, h5, h6, h7, h8⟩
theorem badsB_ok {K : PySem.W.Frag} {names : List Str} {B : List (Addr × Str)} (e : B = names.map fun x => (He.ga K x, x)) (h : badsB K names = true) : BadsOk K B (He.ga K "ScreenError") := by
  subst e
  unfold badsB at h
  rw [List.all_eq_true] at h
  have at_ : ∀ x ∈ names.map fun x => (He.ga K x, x), ∃ n ∈ names, x = (He.ga K n, n) := fun x hx => by
    obtain ⟨n, hn, rfl⟩ := List.mem_map.mp hx
    exact ⟨n, hn, rfl⟩
  refine ⟨fun x hx => ?_, fun x hx y hy => ?_, fun x hx => ?_, fun x hx => ?_⟩
  all_goals
    obtain ⟨n, hn, rfl⟩ := at_ x hx
    have z := h n hn
    simp only [Bool.and_eq_true, beq_iff_eq, List.all_eq_true] at z
    obtain ⟨⟨⟨z1, z2⟩, z3⟩, z4⟩ := z
  · exact oneBadB_ok z1
  · obtain ⟨m, hm, rfl⟩ := at_ y hy
    exact z4 m hm
  · exact z2
  · exact z3
/-! ### isinstance of the exception that is handled -/
theorem cr_isP {X : Cx} {p : Addr × Obj} {D : Addr} (hp : p ∈ X.pn) (hz : Zc (.ref D) none p.2) (hf : ∃ vs, p.2.data = .fields vs) (C : ExcC X.K D) : CallR X (.builtin "isinstance") (rIsE X.K D p.1) := by
  intro pins s σ H xs us Q I r h
  obtain ⟨c, cv, b, rfl, hcv, e, q⟩ := h
  obtain ⟨u1, u2, rfl, r1, r2⟩ := vals2 r
  obtain rfl : u1 = Value.ref p.1 := r1
  have ec := hcv _ r2
  subst ec
  have hget := (I.pin p (List.mem_append_left _ hp)).1
  obtain ⟨a, oe⟩ := p
  obtain ⟨vs, hv⟩ := hf
  have J : PySem.W.InstAt s.heap a oe D none := by
    obtain ⟨oc, od, oda, osl⟩ := oe
    obtain ⟨h1, h2⟩ := hz
    dsimp only at h1 h2 hv
    subst h1 h2 hv
    exact ⟨hget, rfl, rfl, trivial⟩
  have kx := PySem.W.handS_kitx_exc (x := a) (ox := oe) C.hg C.hk C.hs C.hd C.ha C.hn C.ht C.hm
  exact PySem.W.kia_one kx I.kIn J e (fun z => nomatch z) fun tk => ⟨.bl b, H, I.kept (t' := tk) fun _ _ z => z, rfl, q⟩
abbrev tIs (K : PySem.W.Frag) (D a : Addr) (cl : V) : TE := tCB (rIsE K D a) (tCons (tVar 0) (tCons (tC cl) tNil))
abbrev sOther : Str := T [111, 116, 104, 101, 114]
/-! ### the readings -/
def tw4 (c : Ctx) (D a : Addr) : TS :=
  tSeq (tAsg (tLst (tCons (tIs c.K D a (.ref c.cBadPage)) (tCons (tIs c.K D a (.ref c.cBadPlace)) (tCons (tIs c.K D a (.ref c.cBadSize)) (tCons (tIs c.K D a (.ref c.cBadText)) tNil))))) (gName 1))
  (tSeq (tIfS (tOr (tTest (tOp (uNe c.K) (tCB (rSum c.K) (tCons (tBits 1) tNil)) (tC (.int 1)))) (tNot (tB (tIs c.K D a (.ty "ValueError"))))) (tRet (tTup (tCons (tC (.str sRefused)) (tCons (tC (.str sOther)) tNil)))) tNext)
  (tRet (tTup (tCons (tC (.str sRefused)) (tCons (tOp (uIx c.K) (tLst (tCons (tC (.str "BadPage")) (tCons (tC (.str "BadPlace")) (tCons (tC (.str "BadSize")) (tCons (tC (.str "BadText")) tNil))))) (tBM c.K "list" (rIndex c.K) (tVar 1) (tCons (tC (.bl true)) tNil))) tNil)))))
def tw7 (c : Ctx) (D a : Addr) : TS :=
  tSeq (tAsg (tLst (tCons (tIs c.K D a (.ref c.cBadPage)) (tCons (tIs c.K D a (.ref c.cBadPlace)) (tCons (tIs c.K D a (.ref c.cBadSize)) (tCons (tIs c.K D a (.ref c.cBadText)) tNil))))) (gName 1))
  (tSeq (tAsg (tOp (uAdd c.K) (tVar 1) (tLst (tCons (tIs c.K D a (.ref c.cBadPane)) (tCons (tIs c.K D a (.ref c.cBadTick)) (tCons (tIs c.K D a (.ref c.cNothing)) tNil))))) (gName 1))
  (tSeq (tIfS (tOr (tTest (tOp (uNe c.K) (tCB (rSum c.K) (tCons (tBits 1) tNil)) (tC (.int 1)))) (tNot (tB (tIs c.K D a (.ty "ValueError"))))) (tRet (tTup (tCons (tC (.str sRefused)) (tCons (tC (.str sOther)) tNil)))) tNext)
  (tSeq (tAsg (tLst (tCons (tC (.str "BadPage")) (tCons (tC (.str "BadPlace")) (tCons (tC (.str "BadSize")) (tCons (tC (.str "BadText")) (tCons (tC (.str "BadPane")) (tCons (tC (.str "BadTick")) (tCons (tC (.str "Nothing")) tNil)))))))) (gName 2))
  (tRet (tTup (tCons (tC (.str sRefused)) (tCons (tOp (uIx c.K) (tVar 2) (tBM c.K "list" (rIndex c.K) (tVar 1) (tCons (tC (.bl true)) tNil))) tNil)))))))
theorem none_same {H H' : Hp} {q : Addr} (s : Same H H') (h : H' q = none) : H q = none := by
  cases e : H q with
  | none => rfl
  | some o => rw [s q o e] at h; cases h
section
variable {K : PySem.W.Frag} {H : Hp} {Q : VK} {xs : List V}
theorem n_tupS (hl : xs.length ≤ sizeLine) (k : ∀ (p : Addr) (H' : Hp), H p = none → Same H H' → H' p = some (.tup xs) → Q (.ref p) H') : aTup xs H Q := ⟨hl, fun p hp => k p _ hp (same_new hp) upd_same⟩
theorem n_lstS (hl : xs.length ≤ sizeLine) (k : ∀ (p : Addr) (H' : Hp), H p = none → Same H H' → H' p = some (.lst xs) → Q (.ref p) H') : aLst xs H Q := ⟨hl, fun p hp => k p _ hp (same_new hp) upd_same⟩
theorem n_addLS {p q : Addr} {ys : List V} (hp : H p = some (.lst xs)) (hq : H q = some (.lst ys)) (hl : xs.length + ys.length ≤ sizeLine) (k : ∀ (r : Addr) (H' : Hp), Same H H' → H' r = some (.lst (xs ++ ys)) → Q (.ref r) H') : uAdd K (.ref p) (.ref q) H Q := l_addL hp hq hl fun r hr => k r _ (same_new hr) upd_same
/-- sum(bits) -/
theorem x_sumBits {σ : L2.St} {i : Nat} {p : Addr} {bs : List Bool} {n : Int} (hs : σ[i]? = some (some (.ref p))) (hp : H p = some (.lst (bs.map V.bl))) (hn : (bs.map fun b => if b then (1 : Int) else 0).sum = n) (k : ∀ H', Same H H' → Q (.int n) H') : tCB (rSum K) (tCons (tBits i) tNil) σ H Q := by
  refine x_cb (x_cons ⟨p, bs, hs, hp, fun D hD => x_nil ⟨D, bs.map fun b => if b then (1 : Int) else 0, rfl, sq_of ?_, ?_⟩⟩)
  · rw [upd_same, List.map_map]; rfl
  · rw [hn]; exact k _ (same_new hD)
theorem x_idx {p : Addr} {bs : List Bool} {j : Nat} (hp : H p = some (.lst (bs.map V.bl))) (h1 : bs[j]? = some true) (h2 : ∀ m, m < j → bs[m]? = some false) (k : Q (.int (j : Nat)) H) : rIndex K (.ref p) [.bl true] H Q := by
  refine ⟨p, bs.map V.bl, .bl true, j, .bl true, rfl, rfl, sq_of hp, rfl, ?_, ?_, rfl, fun m z hm hz => ?_, k⟩
  · rw [List.all_map]; exact List.all_eq_true.mpr fun _ _ => rfl
  · rw [List.getElem?_map, h1]; rfl
  · rw [List.getElem?_map, h2 m hm] at hz
    cases hz; rfl
end
theorem rd_word4 {c : Ctx} {CS : Addr} (BO : BadsOk c.K (bads4 c) CS) : ∀ x ∈ bads4 c, ∀ a H Q, (∀ q H', Same H H' → H q = none → H' q = some (.tup [.str sRefused, .str x.2]) → Q (.ref q) H') → tw4 c x.1 a { nx := fun _ H' => Q .non H', rt := Q } (start ["_law_e", "_law_flags"] [.ref a]) H := by
  intro x hx a H Q k
  have hn : x.2 ∈ names4 := List.mem_map_of_mem (f := Prod.snd) hx
  obtain ⟨j, _, hj, hm, hsum, hst⟩ := pick4 x.2 hn
  generalize ebs : (names4.map fun m => decide (m = x.2)) = bs at hj hm hsum
  have m0 : (c.cBadPage, ("BadPage" : Str)) ∈ bads4 c := by simp [bads4]
  have m1 : (c.cBadPlace, ("BadPlace" : Str)) ∈ bads4 c := by simp [bads4]
  have m2 : (c.cBadSize, ("BadSize" : Str)) ∈ bads4 c := by simp [bads4]
  have m3 : (c.cBadText, ("BadText" : Str)) ∈ bads4 c := by simp [bads4]
  unfold tw4
  walk_at "r"
  refine ⟨_, _, _, rfl, fun _ z => z, BO.kit x hx _ m0, ?_⟩
  walk_at "r"
  refine ⟨_, _, _, rfl, fun _ z => z, BO.kit x hx _ m1, ?_⟩
  walk_at "r"
  refine ⟨_, _, _, rfl, fun _ z => z, BO.kit x hx _ m2, ?_⟩
  walk_at "r"
  refine ⟨_, _, _, rfl, fun _ z => z, BO.kit x hx _ m3, ?_⟩
  walk_at "r"
  refine n_lstS (sz rfl) fun p H1 _ s1 h1 => ?_
  have h1' : H1 p = some (.lst (bs.map V.bl)) := by rw [h1, ← ebs]; rfl
  walk_at "r"
  refine x_sumBits (by rfl) h1' hsum fun H2 s2 => ?_
  walk_at "r"
  refine wF rfl ?_
  walk_at "r"
  refine ⟨_, _, _, rfl, fun _ z => z, BO.val x hx, ?_⟩
  walk_at "r"
  refine wF rfl ?_
  walk_at "r"
  refine n_lstS (sz rfl) fun r H3 _ s3 h3 => ?_
  have h3' := s3 _ _ (s2 _ _ h1')
  walk_at "r"
  refine x_tylst (sq_of h3') ?_
  walk_at "r"
  refine x_idx h3' hj hm ?_
  refine l_ixL (sq_of h3) (atI_nat hst) ?_
  walk_at "r"
  refine n_tupS (sz rfl) fun q H4 hq s4 h4 => ?_
  have s := s1.trans (s2.trans s3)
  exact k q H4 (s.trans s4) (none_same s hq) h4
theorem rd_word7 {c : Ctx} {CS : Addr} (BO : BadsOk c.K (bads7 c) CS) : ∀ x ∈ bads7 c, ∀ a H Q, (∀ q H', Same H H' → H q = none → H' q = some (.tup [.str sRefused, .str x.2]) → Q (.ref q) H') → tw7 c x.1 a { nx := fun _ H' => Q .non H', rt := Q } (start ["_law_e", "_law_flags", "_law_words"] [.ref a]) H := by
  intro x hx a H Q k
  have hn : x.2 ∈ names7 := List.mem_map_of_mem (f := Prod.snd) hx
  obtain ⟨j, _, hj, hm, hsum, hst⟩ := pick7 x.2 hn
  generalize ebs : (names7.map fun m => decide (m = x.2)) = bs at hj hm hsum
  have m0 : (c.cBadPage, ("BadPage" : Str)) ∈ bads7 c := by simp [bads7, bads4]
  have m1 : (c.cBadPlace, ("BadPlace" : Str)) ∈ bads7 c := by simp [bads7, bads4]
  have m2 : (c.cBadSize, ("BadSize" : Str)) ∈ bads7 c := by simp [bads7, bads4]
  have m3 : (c.cBadText, ("BadText" : Str)) ∈ bads7 c := by simp [bads7, bads4]
  have m4 : (c.cBadPane, ("BadPane" : Str)) ∈ bads7 c := by simp [bads7, bads4]
  have m5 : (c.cBadTick, ("BadTick" : Str)) ∈ bads7 c := by simp [bads7, bads4]
  have m6 : (c.cNothing, ("Nothing" : Str)) ∈ bads7 c := by simp [bads7, bads4]
  unfold tw7
  walk_at "r"
  refine ⟨_, _, _, rfl, fun _ z => z, BO.kit x hx _ m0, ?_⟩
  walk_at "r"
  refine ⟨_, _, _, rfl, fun _ z => z, BO.kit x hx _ m1, ?_⟩
  walk_at "r"
  refine ⟨_, _, _, rfl, fun _ z => z, BO.kit x hx _ m2, ?_⟩
  walk_at "r"
  refine ⟨_, _, _, rfl, fun _ z => z, BO.kit x hx _ m3, ?_⟩
  walk_at "r"
  refine n_lstS (sz rfl) fun p0 H0 _ s0 h0 => ?_
  walk_at "r"
  refine ⟨_, _, _, rfl, fun _ z => z, BO.kit x hx _ m4, ?_⟩
  walk_at "r"
  refine ⟨_, _, _, rfl, fun _ z => z, BO.kit x hx _ m5, ?_⟩
  walk_at "r"
  refine ⟨_, _, _, rfl, fun _ z => z, BO.kit x hx _ m6, ?_⟩
  walk_at "r"
  refine n_lstS (sz rfl) fun p5 H5 _ s5 h5 => ?_
  refine n_addLS (s5 _ _ h0) h5 (sz rfl) fun p H1 s1 h1 => ?_
  walk_at "r"
  have h1' : H1 p = some (.lst (bs.map V.bl)) := by rw [h1, ← ebs]; rfl
  refine x_sumBits (by rfl) h1' hsum fun H2 s2 => ?_
  walk_at "r"
  refine wF rfl ?_
  walk_at "r"
  refine ⟨_, _, _, rfl, fun _ z => z, BO.val x hx, ?_⟩
  walk_at "r"
  refine wF rfl ?_
  walk_at "r"
  refine n_lstS (sz rfl) fun r H3 _ s3 h3 => ?_
  have h3' := s3 _ _ (s2 _ _ h1')
  walk_at "r"
  refine x_tylst (sq_of h3') ?_
  walk_at "r"
  refine x_idx h3' hj hm ?_
  refine l_ixL (sq_of h3) (atI_nat hst) ?_
  walk_at "r"
  refine n_tupS (sz rfl) fun q H4 hq s4 h4 => ?_
  have s := (s0.trans s5).trans (s1.trans (s2.trans s3))
  exact k q H4 (s.trans s4) (none_same s hq) h4
/-! ### the def -/
theorem word_of {P : Program} {w : World} {K : PySem.W.Frag} {mg : Str → Option Value} {base : Heap} {st : Stmt} {f : Addr} {fd : FuncData} {N : List Str} {B : List (Addr × Str)} {CS : Addr} {tw : Addr → Addr → TS} (F : Fun K "_law_word" "_law_word" st f fd) (hm : mg "_law_word" = some (.ref f)) (S : FnScope N ["_law_e"] (defScope st))
    (hb : Binds K fd ["_law_e"] []) (BO : BadsOk K B CS)
    (der : ∀ (cdv : Value) (A : Around) (outer : List Env) (s : Shared) (H : Hp) (p : Addr × Obj) (D : Addr), L2H.RoomH 0 (A.deeper (envOfC "_law_word" (defScope st) s.heap.objs.size f cdv)) → L2H.HotC (L2H.cxH C8.CX0 P w K mg base N "_law_word" (defScope st) f cdv A outer s H C8.E0 p) →
      Zc (.ref D) none p.2 → (∃ vs, p.2.data = .fields vs) → ExcC K D → PSs (L2H.cxH C8.CX0 P w K mg base N "_law_word" (defScope st) f cdv A outer s H C8.E0 p) (defBody st) (tw D p.1))
    (rd : ∀ x ∈ B, ∀ a H Q, (∀ q H', Same H H' → H q = none → H' q = some (.tup [.str sRefused, .str x.2]) → Q (.ref q) H') → tw x.1 a { nx := fun _ H' => Q .non H', rt := Q } (start N [.ref a]) H) : WordOk P w K mg base B := by
  have b := hb
  have kp := F.kp
  obtain ⟨oc, od, kV, doc, pm, an, cdv, ct, osl, rfl, lk, hcd⟩ := F.ex
  refine ⟨f, hm, kp, fun A outer s H a oe Q x hx hr hh hpin hz hd e0 hq => ?_⟩
  have KX : K.In s.heap := e0.mod.kin.keeps fun b o e => (e0.bs b o e).1
  have lim : s.heap.NoLimit := e0.mod.nolimit.keeps fun b o e => (e0.bs b o e).1
  have hbt := b s [.ref a] KX rfl
  have hkind : ∀ y ∈ (["_law_e"] : List Str).zip [Value.ref a], (defScope st).names.lookup y.1 = some .local ∨ ((defScope st).names.lookup y.1 = some .cell ∧ ((cellsFrom (s.heap.objs.size + 1) (defScope st).names []).lookup y.1).isSome = true) := fun ⟨n, v⟩ hy => by
    rcases S.par n (List.of_mem_zip hy).1 with q | q
    · exact .inl q
    · exact .inr ⟨q, PySem.W.cellsFrom_some _ _ _ (.inl q)⟩
  refine codeAny_call_function hr.depth (KX _ _ lk) rfl S.co S.gen rfl (PySem.W.codeRec_of KX hcd) (hbt _ _ _ _ ?_)
  refine wpAny_newFunctionEnv_cells S.kind hkind fun env he s1 x1 => ?_
  subst he
  refine ⟨lim.keeps x1.toInCall.keep, codeAny_func ?_⟩
  obtain ⟨vs, hv⟩ := id hd
  have hot : L2H.HotC (L2H.cxH C8.CX0 P w K mg base N "_law_word" (defScope st) f cdv A outer s H C8.E0 (a, oe)) := ⟨(a, oe), ⟨hh, vs, hv, hz.2.2 vs hv⟩, List.mem_singleton.mpr rfl⟩
  have ht := der cdv A outer s H (a, oe) x.1 (hr.deeper _) hot hz.zc hd (BO.exc x hx)
  have I : Inv (L2H.cxH C8.CX0 P w K mg base N "_law_word" (defScope st) f cdv A outer s H C8.E0 (a, oe)) [] (L2.start N [.ref a]) H s1 := L2H.inv_startH (us := [Value.ref a]) S hpin e0 rfl (.cons rfl .nil) x1
  refine wpAny_mono (ht.run [] s1 (L2.start N [.ref a]) H { nx := fun _ H' => Q .non H', rt := Q } I (rd x hx a H Q hq)) (fun fl s' hs => ?_) fun e s' hs => hs
  have fin : ∀ {σ' : L2.St} {H' : Hp} {v : V} {u : Value}, Inv (L2H.cxH C8.CX0 P w K mg base N "_law_word" (defScope st) f cdv A outer s H C8.E0 (a, oe)) [] σ' H' s' → RelV v u → Q v H' → CE outer P w H s Q u s' := fun {σ' H' v u} J rv q => ⟨v, H', J.os, J.bare, J.base, J.hok, rv, q⟩
  cases fl with
  | ret u =>
    obtain ⟨v, σ', H', J, rv, q⟩ := hs
    exact fin J rv q
  | next =>
    obtain ⟨σ', H', J, q⟩ := hs
    exact fin (v := V.non) (u := Value.none) J rfl q
  | brk => exact hs.elim fun _ h => h.elim fun _ h => h.2.elim
  | cont => exact hs.elim fun _ h => h.elim fun _ h => h.2.elim
end Ss
/-! ## Refusals 4: _law_told, wherever it stands; what a refusal leaves -/
namespace Ss
open PySem PySem.Spec PyProof.Rows L2 LamX
structure ToldN (P : Program) (w : World) (K : PySem.W.Frag) (mg : Str → Option Value) (base : Heap) (pg : Arguments) (bg : List Stmt) (sg : Scope) (B : List (Addr × Str)) : Prop where
  ex : ∃ (g : Addr) (oc : Value) (od : Option Addr) (dV kV doc pm : Value) (an : Option Addr) (cdv ct : Value) (osl : Array (Option Value)), mg "_law_told" = some (.ref g) ∧ PySem.W.keepIn K (.ref g) = true ∧
    K.lookup g = some ⟨oc, od, .func (PySem.W.fnOf "_law_told" "_law_told" pg bg sg dV kV doc pm an cdv ct), osl⟩ ∧ PySem.W.codeIn K cdv "_law_told" = true ∧ L2.Binds K (PySem.W.fnOf "_law_told" "_law_told" pg bg sg dV kV doc pm an cdv ct) ["_law_deed"] []
  gives : ∀ (X : Cx), X.prog = P → X.w = w → X.K = K → X.mg = mg → X.base = base → ∀ (g : Addr) (cdg : Value) (q : Str), GivesN X ["_law_deed", "_law_e"] "_law_told" sg g cdg bg "_law_deed" q (TT1 B)
  sc : FnScope ["_law_deed", "_law_e"] ["_law_deed"] sg
  vis : Vis sg "_law_deed"
theorem pe_toldN {X : Cx} {T : List (Addr × Str)} {pg : Arguments} {bg : List Stmt} {sg : Scope} {B : List (Addr × Str)} {c P : Addr} {k k' : Nat} {params : Arguments} {body : Expr} {scope : Scope} {t : XK → TE} {p lpos pos : Pos} (D : ToldN X.prog X.w X.K X.mg X.base pg bg sg B)
    (TB : TabB X.base X.mg c P) (hcode : X.env.code = .ref c) (hT : T = [(P, X.env.qual ++ "<lambda>")]) (hr : Room k' X.A) (L : LamS X.env.scope scope) (hdef : defaultsOf params X.env = ([], []))
    (hbind : ∀ (q : Str) (cl : List (Str × Addr)) (pm cv ctv : Value), bindArgs (PySem.W.kla_fn "<lambda>" q params body scope cl pm cv ctv) ⟨[], []⟩ = pure [])
    (hbody : ∀ (A : Around) (outer : List Env) (s : Shared) (H : Hp) (E : XK) (f c' : Addr), Room k (A.deeper (lamEnv X scope s.heap.objs.size f c')) → PE (lamN X A outer s H E scope f c') body (t E))
    (hk : k + 2 ≤ k' := by decide) (hk1 : 1 ≤ k := by decide) (hg : Gl X "_law_told" := by rfl) : PE X (.Call (.Name "_law_told" p) [.Lambda params body scope lpos] [] pos) (tLam T (TT1 B) t) := by
  obtain ⟨g, oc, od, dV, kV, doc, pm, an, cdv, ct, osl, h1, h2, h3, h4, h5⟩ := D.ex
  obtain ⟨j, rfl⟩ : ∃ j, k = j + 1 := ⟨k - 1, by omega⟩
  subst hT
  exact pe_lamcallN (k := j) hg h1 h2 h3 h4 h5 D.sc rfl D.vis (D.gives X rfl rfl rfl rfl rfl g cdv _) TB hcode (List.mem_singleton.mpr rfl) (fun p hp _ => by rw [List.mem_singleton.mp hp]) (hr.mono hk) L hdef hbind hbody
/-! ### a lambda, seen from its caller -/
theorem x_lamN {T : List (Addr × Str)} {B : List (Addr × Str)} {t : XK → TE} {σ : L2.St} {F H : Hp} {L : List (Addr × HO)} {Q : VK} (W : Hold F L H) (hL : ∀ x ∈ L, Plain x.2) (tb : Tabs T F)
    (k : ∀ F1 H1, Gr F F1 → Tabs T F1 → Hold F1 L H1 → t (EW B Q) σ H1 Q) : tLam T (TT1 B) t σ H Q := by
  have z := x_lam (T := T) (t := fun _ => t (EW B Q)) (σ := σ) (Q := Q) W hL tb k
  exact z
/-- refused: the pair is told -/
theorem ew_of {B : List (Addr × Str)} {Q : VK} {F H : Hp} {L : List (Addr × HO)} {x : Addr × Str} (hx : x ∈ B) (W : Hold F L H) (k : ∀ (q : Addr) F' H', Same F F' → F' q = some (.tup [.str sRefused, .str x.2]) → Hold F' L H' → Q (.ref q) H') : EW B Q (.ref x.1) none H := by
  refine ⟨rfl, x, hx, rfl, fun q H' s hq h => ?_⟩
  have nF := W.fresh hq
  have nL := W.freshL hq
  refine k q (upd F q (.tup [.str sRefused, .str x.2])) H' (same_new nF) upd_same ⟨fun b o e => ?_, fun y hy => s _ _ (W.own y hy), fun y hy => ?_, W.nd⟩
  · by_cases hb : b = q
    · subst hb; rw [upd_same] at e; cases e; exact h
    · rw [upd_ne hb] at e; exact s _ _ (W.old b o e)
  · rw [upd_ne (nL y hy)]; exact W.sep y hy
def refusedD (s : Str) : PyData := .tuple [.str sRefused, .str s]
theorem refused_dp {K : PySem.W.Frag} {F : Hp} {q : Addr} {s : Str} (h : F q = some (.tup [.str sRefused, .str s])) : Dp K F (.ref q) (refusedD s) := .tup (st_of h) (.cons (.str _) (.cons (.str _) .nil))
theorem mem_bads4 {c : Ctx} : (c.cBadPage, ("BadPage" : Str)) ∈ bads4 c ∧ (c.cBadPlace, ("BadPlace" : Str)) ∈ bads4 c ∧ (c.cBadSize, ("BadSize" : Str)) ∈ bads4 c ∧ (c.cBadText, ("BadText" : Str)) ∈ bads4 c := by simp [bads4]
theorem mem_bads7 {c : Ctx} : (c.cBadPage, ("BadPage" : Str)) ∈ bads7 c ∧ (c.cBadPlace, ("BadPlace" : Str)) ∈ bads7 c ∧ (c.cBadSize, ("BadSize" : Str)) ∈ bads7 c ∧ (c.cBadText, ("BadText" : Str)) ∈ bads7 c ∧ (c.cBadPane, ("BadPane" : Str)) ∈ bads7 c ∧ (c.cBadTick, ("BadTick" : Str)) ∈ bads7 c ∧ (c.cNothing, ("Nothing" : Str)) ∈ bads7 c := by simp [bads7, bads4]
/-- the def told, by its parts -/
theorem toldN_of {P : Program} {w : World} {K : PySem.W.Frag} {mg : Str → Option Value} {base : Heap} {B : List (Addr × Str)} {st : Stmt} {f : Addr} {fd : FuncData} {CS : Addr} (W : WordOk P w K mg base B) (BO : BadsOk K B CS) (F : Fun K "_law_told" "_law_told" st f fd) (g : mg "_law_told" = some (.ref f)) (gE : mg "ScreenError" = some (.ref CS))
    (b : Binds K fd ["_law_deed"] []) (S : FnScope ["_law_deed", "_law_e"] ["_law_deed"] (defScope st)) (hv : Vis (defScope st) "_law_deed")
    (hG : ∀ X : Cx, WordOk X.prog X.w X.K X.mg X.base B → BadsOk X.K B CS → X.mg "ScreenError" = some (.ref CS) → ∀ (g : Addr) (cdg : Value) (q : Str), GivesN X ["_law_deed", "_law_e"] "_law_told" (defScope st) g cdg (defBody st) "_law_deed" q (TT1 B)) :
    ToldN P w K mg base (defArgs st) (defBody st) (defScope st) B := by
  have kp := F.kp
  obtain ⟨oc, od, kV, doc, pm, an, cdv, ct, osl, rfl, lk, hcd⟩ := F.ex
  refine ⟨⟨f, oc, od, .none, kV, doc, pm, an, cdv, ct, osl, g, kp, lk, hcd, b⟩, fun X e1 e2 e3 e4 e5 g2 cdg q => ?_, S, hv⟩
  subst e1 e2 e3 e4 e5
  exact hG X W BO gE g2 cdg q
theorem _root_.L2H.RoomH.units {k : Nat} {A : Around} (r : L2H.RoomH k A) : A.units + 64 < cLine := by have := r.un; omega
end Ss
/-! ## Refusals 5: what the refusing laws share -/
namespace Ss
open PySem PySem.Spec PyProof.Rows L2
open Ss in
local macro_rules | `(tactic| walk_at "fg") => `(tactic| first | with_reducible exact fsScreen_g0 | with_reducible exact fsScreen_g1 | with_reducible exact fsScreen_g2 | with_reducible exact fsScreen_g3 | with_reducible exact fsScreen_g4 | with_reducible exact fsScreen_g5 | with_reducible exact fsScreen_g6 | with_reducible exact fsScreen_g7 | with_reducible exact fsScreen_g8 | with_reducible exact fsScreen_g9 | with_reducible exact fsScreen_g10 | with_reducible exact fsScreen_g11 | with_reducible exact fsScreen_g12 | with_reducible exact fsScreen_g13 | with_reducible exact fsRow_g0 | with_reducible exact fsRow_g1 | with_reducible exact fsReader_g0 | with_reducible exact fsReader_g1)
open Ss in
local macro_rules | `(tactic| walk_at "r") => `(tactic| repeat (first
  | with_reducible refine x_seq ?_ | with_reducible refine x_asg ?_ | with_reducible refine x_var rfl ?_ | with_reducible refine x_c ?_ | with_reducible refine x_op ?_ | with_reducible refine x_name ?_ | with_reducible refine x_gcons ?_ | with_reducible refine x_gnil ?_
  | with_reducible refine x_cons ?_ | with_reducible refine x_nil ?_ | with_reducible refine x_cb ?_ | with_reducible refine x_ifs ?_ | with_reducible refine x_test ?_ | with_reducible refine x_bl ?_
  | with_reducible refine g_addNN ?_ | with_reducible refine g_addNL ?_ | with_reducible refine g_addLN ?_ | with_reducible refine l_addI ?_ | with_reducible refine l_subI ?_ | with_reducible refine g_ltNL ?_ | with_reducible refine l_ltI ?_ | with_reducible refine l_leI ?_ | with_reducible refine l_gtI ?_ | with_reducible refine l_geI ?_ | with_reducible refine l_eqX ?_ | with_reducible refine l_neX ?_ | with_reducible refine g_eqNL ?_ | with_reducible refine l_eqII ?_ | with_reducible refine l_neII ?_ | with_reducible refine l_eq rfl ?_ | with_reducible refine l_ne rfl ?_
  | with_reducible refine x_fld ?_ | with_reducible refine x_ret ?_ | with_reducible refine x_drop ?_ | with_reducible refine x_next ?_ | with_reducible refine x_tup ?_ | with_reducible refine x_lst ?_ | with_reducible refine x_f ?_ | with_reducible refine x_o ?_ | with_reducible refine x_n ?_
  | with_reducible refine x_bm ?_ | with_reducible refine x_bm0 ?_ | with_reducible refine x_m1 ?_ | with_reducible refine x_m0 ?_ | with_reducible refine x_isstr ?_ | with_reducible refine x_tystr ?_ | with_reducible refine x_sl ?_ | with_reducible refine x_part ?_ | with_reducible refine x_part' ?_ | with_reducible refine x_nopart ?_
  | with_reducible refine x_sfld ?_ | with_reducible refine x_if ?_ | with_reducible refine x_isty ?_ | with_reducible refine x_chain ?_ | with_reducible refine x_andV ?_ | with_reducible refine x_orV ?_ | with_reducible refine x_notV ?_ | with_reducible refine x_B ?_ | with_reducible refine x_and ?_ | with_reducible refine x_or ?_ | with_reducible refine x_not ?_ | with_reducible refine x_tru ?_ | with_reducible refine x_yes ?_
  | with_reducible refine x_un ?_ | with_reducible refine x_neg ?_ | with_reducible refine x_par ?_ | with_reducible refine x_par' ?_ | with_reducible refine x_retN ?_ | with_reducible refine x_brk ?_ | with_reducible refine x_cont ?_ | with_reducible refine x_rz ?_
  | with_reducible refine l_leS ?_ | with_reducible refine l_ltS ?_ | with_reducible refine l_inX ?_ | with_reducible refine l_niX ?_ | with_reducible refine l_inS ?_ | with_reducible refine l_niS ?_ | with_reducible refine l_count ?_ | with_reducible refine l_ord ?_ | with_reducible refine l_max ?_ | with_reducible refine l_min ?_ | with_reducible refine l_intI ?_ | with_reducible refine l_intB ?_ | with_reducible refine l_is ?_ | with_reducible refine l_isn ?_
  | with_reducible refine g_modNL (by decide) ?_ | with_reducible refine g_divNL (by decide) (by decide) ?_ | with_reducible refine l_modI (by decide) ?_ | with_reducible refine x_for ?_ | with_reducible refine x_lc ?_ | with_reducible refine x_ilist ?_ | with_reducible refine x_itup ?_ | with_reducible refine x_istr ?_ | with_reducible refine x_istr' ?_ | with_reducible refine x_irng1 ?_ | with_reducible refine x_irng2 ?_
  | (with_reducible refine x_get (by first | assumption | exact Hold.get0 (by assumption) | exact Hold.get1 (by assumption)) (by assumption) (by assumption) (by walk_at "fg") ?_)
  | (with_reducible refine x_ao (by first | assumption | exact Hold.get0 (by assumption) | exact Hold.get1 (by assumption)) (by kernel_rfl) ?_)
  | with_reducible refine x_ienum ?_ | with_reducible refine x_izip ?_ | with_reducible refine x_chain3 ?_
  | (with_reducible refine x_par2 ?_)
  | (with_reducible refine x_par3 ?_) | (with_reducible refine x_par3' ?_)))
def allD (S : Scr) : PyData := .tuple [S.pageD, S.cursorD, textsD S.past, S.stateD]
theorem allD_sh {S : Scr} (h : S.Ok) : Sh 5 (allD S) := .tup fun d hd => by
  rcases List.mem_cons.mp hd with rfl | hd
  · exact pageD_sh h.rows
  rcases List.mem_cons.mp hd with rfl | hd
  · exact (cursorD_sh S).mono (by decide)
  rcases List.mem_cons.mp hd with rfl | hd
  · exact (texts_sh h.past).mono (by decide)
  rw [List.mem_singleton.mp hd]
  exact (stateD_sh S).mono (by decide)
section
variable {c : Ctx} {σ : L2.St} {F H : Hp} {L : List (Addr × HO)} {Q : VK} {s : Addr} {C : ScrC} {S : Scr} {x : V}
theorem plain_rows : ∀ {l : List RowC}, ∀ y ∈ ownR c l, Plain y.2
  | [], _, h => (nomatch h)
  | r :: l, y, h => by
    rcases List.mem_cons.mp h with rfl | h
    · trivial
    rcases List.mem_cons.mp h with rfl | h
    · trivial
    exact plain_rows y h
theorem plain_scr (hL : ∀ y ∈ L, Plain y.2) : ∀ y ∈ scrL c s C S L, Plain y.2 := fun y h => by
  rcases List.mem_cons.mp h with rfl | h
  · trivial
  rcases List.mem_cons.mp h with rfl | h
  · trivial
  rcases List.mem_append.mp h with h | h
  · exact plain_rows y h
  · exact hL y h
theorem plain_cons {y : Addr × HO} (hy : Plain y.2) (hL : ∀ y ∈ L, Plain y.2) : ∀ z ∈ y :: L, Plain z.2 := fun z h => by
  rcases List.mem_cons.mp h with rfl | h
  · exact hy
  · exact hL z h
theorem plain_nil : ∀ y ∈ ([] : List (Addr × HO)), Plain y.2 := fun _ h => (nomatch h)
/-- D.append(v) of one's own -/
theorem x_app {D : Addr} {ys : List V} {v : V} (W : Hold F ((D, .lst ys) :: L) H) (hl : ys.length < 100000) (q : ∀ H', Hold F ((D, .lst (ys ++ [v])) :: L) H' → Q .non H') : rAppend (.ref D) [v] H Q :=
  ⟨D, ys, v, rfl, rfl, W.get0, szlt hl, q _ W.put0⟩
/-- (s.page(), s.cursor(), s.kept(), s.state()) -/
theorem x_all {i : Nat} {E : XK} (hσ : σ[i]? = some (some (.ref s))) (A : ScrAt c F C S) (W : Hold F (scrL c s C S L) H) (kq : ∀ (v : Addr) F' H', Same F F' → Dp c.K F' (.ref v) (allD S) → Hold F' (scrL c s C S L) H' → Q (.ref v) H') :
    sp_Screen_page c [.ref s] H (fun x H1 => tCons (tO c.cScreen "cursor" (sp_Screen_cursor c) E0 (tVar i) tNil) (tCons (tO c.cScreen "kept" (sp_Screen_kept c) E0 (tVar i) tNil) (tCons (tO c.cScreen "state" (sp_Screen_state c) E0 (tVar i) tNil) tNil)) σ H1 fun xs H2 => aTup (x :: xs) H2 Q) E := by
  refine sp_page_tell A W fun v F12 H12 s12 h12 W12 => ?_
  refine x_cons (x_o (x_var hσ (x_ao W12.get0 (by kernel_rfl) (x_nil ?_))))
  refine ⟨s, C, S, F12, _, rfl, A.gr (Gr.of s12), W12, fun v2 F13 H13 s13 h13 W13 => ?_⟩
  refine x_cons (x_o (x_var hσ (x_ao W13.get0 (by kernel_rfl) (x_nil ?_))))
  have A13 := A.gr (Gr.of (s12.trans s13))
  refine sp_kept_tell A13 W13 fun v3 F14 H14 s14 h14 W14 => ?_
  refine x_cons (x_o (x_var hσ (x_ao W14.get0 (by kernel_rfl) (x_nil ?_))))
  refine ⟨s, C, S, F14, _, rfl, A13.gr (Gr.of s14), W14, fun v4 F15 H15 s15 h15 W15 => ?_⟩
  refine x_nil (n_tupF W15 (sz rfl) fun p F16 H16 s16 h16 W16 => ?_)
  exact kq p F16 H16 ((((s12.trans s13).trans s14).trans s15).trans s16) (.tup (st_of h16) (.cons ((Gr.of (((s13.trans s14).trans s15).trans s16)).dp h12) (.cons ((Gr.of ((s14.trans s15).trans s16)).dp h13) (.cons ((Gr.of (s15.trans s16)).dp h14) (.cons ((Gr.of s16).dp h15) .nil))))) W16
theorem n_dictF (W : Hold F L H) (k : ∀ (p : Addr) F' H', Same F F' → F' p = some (.dK []) → Hold F' L H' → Q (.ref p) H') : tDNewK σ H Q := newF W fun p F' H' s h W' _ => k p F' H' s h W'
/-- a thing of another type is no text -/
theorem noText {x : V} {t : String} (h : TyOf c.K F x (.type t)) (hk : kitB t "str" = some false) (hx : ∀ z, x ≠ .str z) : TextArg c F x ∧ okText x = false := by
  refine ⟨.inr ⟨⟨t, .base h, hk⟩, hx⟩, ?_⟩
  cases x with
  | str z => exact absurd rfl (hx z)
  | _ => rfl
theorem badText {l : List Nat} (hl : l.length ≤ 1000000) (h : okText (.str (T l)) = false) : TextArg c F (.str (T l)) ∧ okText (.str (T l)) = false := ⟨.inl ⟨l, rfl, hl⟩, h⟩
theorem okText_long {l : List Nat} (h : 4000 < l.length) : okText (.str (T l)) = false := by
  show (decide ((T l).length ≤ 4000) && (T l).cps.toList.all isSign) = false
  rw [T_len, decide_eq_false (by omega), Bool.false_and]
theorem okText_sign {l : List Nat} {n : Nat} (hn : n ∈ l) (h : isSign n = false) : okText (.str (T l)) = false := by
  show (decide ((T l).length ≤ 4000) && (T l).cps.toList.all isSign) = false
  rw [T_list]
  have z : l.all isSign = false := by
    cases e : l.all isSign with
    | false => rfl
    | true => rw [List.all_eq_true] at e; rw [e n hn] at h; cases h
  rw [z, Bool.and_false]
end
theorem refused_sh {l : List Nat} (h : ∀ x ∈ l, x < 1114112) : Sh 1 (refusedD (T l)) := .tup fun d hd => by
  rcases List.mem_cons.mp hd with rfl | hd
  · exact .str (by decide)
  rw [List.mem_singleton.mp hd]
  exact .str h
theorem rep_flat1 (n k : Nat) : (List.replicate k [n]).flatten = List.replicate k n := by
  induction k with
  | zero => rfl
  | succ k ih => rw [List.replicate_succ, List.flatten_cons, ih, List.replicate_succ]; rfl
/-- plain signs are told one by one -/
theorem feed_rep {n : Nat} (h1 : n ≠ 94) (h2 : n ≠ 10) (k : Nat) (lost : Nat) : Rdr.feed ⟨.no, lost⟩ (List.replicate k n) = (⟨.no, lost⟩, List.replicate k (.sign n)) := by
  induction k with
  | zero => rfl
  | succ k ih =>
    have e : Rdr.read ⟨.no, lost⟩ n = (⟨.no, lost⟩, [.sign n]) := by
      unfold Rdr.read plain
      rw [if_pos rfl, if_neg h1, if_neg h2]
    rw [List.replicate_succ]
    show (((Rdr.read ⟨.no, lost⟩ n).1.feed (List.replicate k n)).1, (Rdr.read ⟨.no, lost⟩ n).2 ++ ((Rdr.read ⟨.no, lost⟩ n).1.feed (List.replicate k n)).2) = _
    rw [e, ih]
    rfl
end Ss
/-! ## what is written out: data told by its reading -/
namespace Ss
open PySem PySem.Spec PyProof.Rows L2
section
variable {K : PySem.W.Frag} {σ : L2.St} {F0 : Hp} {t t1 t2 : TE} {ts : TA} {d : PyData} {ds es : List PyData}
def Lit (K : PySem.W.Frag) (σ : L2.St) (F0 : Hp) (t : TE) (d : PyData) : Prop := ∀ F H L Q, Same F0 F → Hold F L H → (∀ v F' H', Same F F' → Dp K F' v d → Hold F' L H' → Q v H') → t σ H Q
def LitL (K : PySem.W.Frag) (σ : L2.St) (F0 : Hp) (t : TE) (ds : List PyData) : Prop := ∀ F H L Q, Same F0 F → Hold F L H → (∀ p xs F' H', Same F F' → F' p = some (.lst xs) → DpAll K F' xs ds → Hold F' L H' → Q (.ref p) H') → t σ H Q
def LitS (K : PySem.W.Frag) (σ : L2.St) (F0 : Hp) (ts : TA) (ds : List PyData) : Prop := ∀ F H L (Q : List V → Hp → Prop), Same F0 F → Hold F L H → (∀ vs F' H', Same F F' → DpAll K F' vs ds → Hold F' L H' → Q vs H') → ts σ H Q
def NumR (σ : L2.St) (t : TE) (n : Int) : Prop := ∀ H Q, Q (.int n) H → t σ H Q
theorem lit_mono {F1 : Hp} (h : Lit K σ F0 t d) (g : Same F0 F1) : Lit K σ F1 t d := fun F H L Q g' => h F H L Q (g.trans g')
theorem lit_non : Lit K σ F0 (tC .non) .none := fun F H _ _ _ W k => x_c (k _ F H (Same.refl F) .non W)
theorem lit_bl {b : Bool} : Lit K σ F0 (tC (.bl b)) (.bool b) := fun F H _ _ _ W k => x_c (k _ F H (Same.refl F) (.bl b) W)
theorem lit_int {i : Int} : Lit K σ F0 (tC (.int i)) (.int i) := fun F H _ _ _ W k => x_c (k _ F H (Same.refl F) (.int i) W)
theorem lit_str {x : Str} : Lit K σ F0 (tC (.str x)) (.str x) := fun F H _ _ _ W k => x_c (k _ F H (Same.refl F) (.str x) W)
theorem lit_neg {i : Int} : Lit K σ F0 (tUn (rU fun i => .int (-i)) (tC (.int i))) (.int (-i)) := fun F H _ _ _ W k => x_un (x_c (x_neg (k _ F H (Same.refl F) (.int (-i)) W)))
theorem lit_var {i : Nat} {v : V} (h : σ[i]? = some (some v)) (hd : Dp K F0 v d) : Lit K σ F0 (tVar i) d := fun F H _ _ g W k => x_var h (k _ F H (Same.refl F) ((Gr.of g).dp hd) W)
theorem lit_num {n : Int} (h : NumR σ t n) : Lit K σ F0 t (.int n) := fun F H _ _ _ W k => h _ _ (k _ F H (Same.refl F) (.int n) W)
theorem num_var {i : Nat} {n : Int} (h : σ[i]? = some (some (.int n))) : NumR σ (tVar i) n := fun _ _ k => x_var h k
theorem num_c {n : Int} : NumR σ (tC (.int n)) n := fun _ _ k => x_c k
theorem num_add {a b : Int} (h1 : NumR σ t1 a) (h2 : NumR σ t2 b) : NumR σ (tOp (uAdd K) t1 t2) (a + b) := fun _ _ k => x_op (h1 _ _ (h2 _ _ (l_addI k)))
theorem lits_nil : LitS K σ F0 tNil [] := fun F H _ _ _ W k => x_nil (k _ F H (Same.refl F) .nil W)
theorem lits_cons (h1 : Lit K σ F0 t d) (h2 : LitS K σ F0 ts ds) : LitS K σ F0 (tCons t ts) (d :: ds) := fun F H L Q g W k => x_cons (h1 F H L _ g W fun _ F1 H1 e1 hd W1 => h2 F1 H1 L _ (g.trans e1) W1 fun _ F2 H2 e2 ha W2 => k _ F2 H2 (e1.trans e2) (.cons ((Gr.of e2).dp hd) ha) W2)
theorem lit_tup (h : LitS K σ F0 ts ds) (hl : ds.length ≤ 100000) : Lit K σ F0 (tTup ts) (.tuple ds) := fun F H L Q g W k => x_tup (h F H L _ g W fun vs F1 H1 e1 ha W1 => n_tupF W1 (szl (by rw [dpAll_len ha]; exact hl)) fun p F2 H2 e2 h2 W2 => k _ F2 H2 (e1.trans e2) (.tup (st_of h2) ((Gr.of e2).dpAll ha)) W2)
theorem litL_lst (h : LitS K σ F0 ts ds) (hl : ds.length ≤ 100000) : LitL K σ F0 (tLst ts) ds := fun F H L Q g W k => x_lst (h F H L _ g W fun vs F1 H1 e1 ha W1 => n_lstF W1 (szl (by rw [dpAll_len ha]; exact hl)) fun p F2 H2 e2 h2 W2 => k p vs F2 H2 (e1.trans e2) h2 ((Gr.of e2).dpAll ha) W2)
theorem lit_of (h : LitL K σ F0 t ds) : Lit K σ F0 t (.list ds) := fun F H L Q g W k => h F H L Q g W fun p _ F' H' e hp ha W' => k _ F' H' e (.lst (sq_of hp) ha) W'
theorem lit_lst (h : LitS K σ F0 ts ds) (hl : ds.length ≤ 100000) : Lit K σ F0 (tLst ts) (.list ds) := lit_of (litL_lst h hl)
theorem litL_var {i : Nat} {p : Addr} {xs : List V} (h : σ[i]? = some (some (.ref p))) (hp : F0 p = some (.lst xs)) (ha : DpAll K F0 xs ds) : LitL K σ F0 (tVar i) ds := fun F H _ _ g W k => x_var h (k p xs F H (Same.refl F) (g _ _ hp) ((Gr.of g).dpAll ha) W)
theorem dpAll_rep {F : Hp} {v : V} (h : Dp K F v d) : ∀ n, DpAll K F (List.replicate n v) (List.replicate n d)
  | 0 => .nil
  | n + 1 => by rw [List.replicate_succ, List.replicate_succ]; exact .cons h (dpAll_rep h n)
theorem litL_add (h1 : LitL K σ F0 t1 ds) (h2 : LitL K σ F0 t2 es) (hl : ds.length + es.length ≤ 100000) : LitL K σ F0 (tOp (uAdd K) t1 t2) (ds ++ es) := fun F H L Q g W k =>
  x_op (h1 F H L _ g W fun p xs F1 H1 e1 hp ha W1 => h2 F1 H1 L _ (g.trans e1) W1 fun q ys F2 H2 e2 hq hb W2 =>
    n_addF W2 (W2.old _ _ (e2 _ _ hp)) (W2.old _ _ hq) (szl (by rw [dpAll_len ha, dpAll_len hb]; exact hl)) fun r F3 H3 e3 hr W3 => k r _ F3 H3 (e1.trans (e2.trans e3)) hr ((Gr.of e3).dpAll (dpAll_app ((Gr.of e2).dpAll ha) hb)) W3)
/-- (x,) * n -/
theorem lit_mulT {n : Nat} (h1 : Lit K σ F0 (tTup (tCons t tNil)) (.tuple [d])) (h2 : NumR σ t2 (n : Int)) (hn : 2 ≤ n) (hn2 : n ≤ 1000) : Lit K σ F0 (tOp (uMul K) (tTup (tCons t tNil)) t2) (.tuple (List.replicate n d)) := fun F H L Q g W k =>
  x_op (h1 F H L _ g W fun v F1 H1 e1 hd W1 => h2 _ _ (by
    obtain ⟨p, xs, rfl, hs, ha⟩ := tup_view hd
    obtain ⟨x, rfl⟩ : ∃ x, xs = [x] := List.length_eq_one_iff.mp (dpAll_len ha)
    cases ha with | cons hx _ =>
    refine l_mulT (W1.gr.sqT hs) (by simp) (by omega) (by omega) (by simp) (newF W1 fun r F2 H2 e2 hr W2 _ => k _ F2 H2 (e1.trans e2) (.tup (st_of hr) ?_) W2)
    rw [Int.toNat_natCast, rep_one]
    exact dpAll_rep ((Gr.of e2).dp hx) n))
/-- a thing of a list -/
theorem lit_ix {n : Nat} (h1 : LitL K σ F0 t1 ds) (h2 : NumR σ t2 (n : Int)) (hn : n < ds.length) : Lit K σ F0 (tOp (uIx K) t1 t2) (ds.getD n .none) := fun F H L Q g W k =>
  x_op (h1 F H L _ g W fun p xs F1 H1 e1 hp ha W1 => h2 _ _ (g_ixL (W1.gr.sqL (sq_of hp)) (by rw [dpAll_len ha]; exact hn) (k _ F1 H1 e1 (dpAll_get ha n hn) W1)))
end
end Ss
/-! ## told again and again, refused each time -/
namespace Ss
open PySem PySem.Spec PyProof.Rows L2
section
variable {c : Ctx} {σ σ0 : L2.St} {F H : Hp} {L : List (Addr × HO)} {B : List (Addr × Str)} {x : Addr × Str} {t : XK → TE} {QQ : VK} {D : Addr} {ys : List V} {n : Nat}
/-- a deed that is refused, told -/
theorem told_ref (hx : x ∈ B) (W : Hold F L H) (pl : ∀ z ∈ L, Plain z.2) (tb : LamX.Tabs c.tabs F)
    (kt : ∀ F1 H1 (E : XK) (Q' : VK), Gr F F1 → Hold F1 L H1 → (∀ F2 H2, Same F1 F2 → Hold F2 L H2 → E (.ref x.1) none H2) → t E σ H1 Q')
    (k : ∀ (q : Addr) F3 H3, Gr F F3 → LamX.Tabs c.tabs F3 → Dp c.K F3 (.ref q) (refusedD x.2) → F3 q = some (.tup [.str sRefused, .str x.2]) → Hold F3 L H3 → QQ (.ref q) H3) : LamX.tLam c.tabs (TT1 B) t σ H QQ :=
  x_lamN W pl tb fun F1 H1 g1 tb1 W1 => kt F1 H1 _ _ g1 W1 fun F2 H2 e2 W2 => ew_of hx W2 fun q F3 H3 e3 h3 W3 =>
    k q F3 H3 (g1.trans (Gr.of (e2.trans e3))) (tb1.ext (e2.trans e3)) (refused_dp h3) h3 W3
theorem plain_lst {D : Addr} {ys : List V} (h : ∀ z ∈ L, Plain z.2) : ∀ z ∈ (D, HO.lst ys) :: L, Plain z.2 := plain_cons trivial h
/-- the first of a list -/
theorem told_first (hx : x ∈ B) (W : Hold F L H) (pl : ∀ z ∈ L, Plain z.2) (tb : LamX.Tabs c.tabs F)
    (kt : ∀ F1 H1 (E : XK) (Q' : VK), Gr F F1 → Hold F1 L H1 → (∀ F2 H2, Same F1 F2 → Hold F2 L H2 → E (.ref x.1) none H2) → t E σ H1 Q')
    (k : ∀ D F3 H3 ys', Gr F F3 → LamX.Tabs c.tabs F3 → DpAll c.K F3 ys' (List.replicate 1 (refusedD x.2)) → Hold F3 ((D, .lst ys') :: L) H3 → QQ (.ref D) H3) :
    LamX.tLam c.tabs (TT1 B) t σ H (fun x H1 => tNil σ0 H1 fun xs H2 => aLst (x :: xs) H2 QQ) :=
  told_ref hx W pl tb kt fun q F3 H3 g3 tb3 hq _ W3 => n_lstL W3 (sz rfl) fun D H4 W4 => k D F3 H4 _ g3 tb3 (.cons hq .nil) W4
/-- the next one -/
theorem told_next (hx : x ∈ B) (W : Hold F ((D, .lst ys) :: L) H) (pl : ∀ z ∈ L, Plain z.2) (tb : LamX.Tabs c.tabs F) (hy : DpAll c.K F ys (List.replicate n (refusedD x.2))) (hn : n < 1000)
    (kt : ∀ F1 H1 (E : XK) (Q' : VK), Gr F F1 → Hold F1 ((D, .lst ys) :: L) H1 → (∀ F2 H2, Same F1 F2 → Hold F2 ((D, .lst ys) :: L) H2 → E (.ref x.1) none H2) → t E σ H1 Q')
    (k : ∀ F3 H3 ys', Gr F F3 → LamX.Tabs c.tabs F3 → DpAll c.K F3 ys' (List.replicate (n + 1) (refusedD x.2)) → Hold F3 ((D, .lst ys') :: L) H3 → QQ .non H3) :
    LamX.tLam c.tabs (TT1 B) t σ H (fun x H1 => tNil σ0 H1 fun xs H2 => rAppend (.ref D) (x :: xs) H2 QQ) :=
  told_ref hx W (plain_lst pl) tb kt fun q F3 H3 g3 tb3 hq _ W3 => x_app W3 (by rw [dpAll_len hy, List.length_replicate]; omega) fun H4 W4 =>
    k F3 H4 _ g3 tb3 (by rw [List.replicate_succ']; exact dpAll_app (g3.dpAll hy) (.cons hq .nil)) W4
/-- all told so: [("refused", x)] * n is no other -/
theorem told_ne {s : List Nat} (hs : ∀ x ∈ s, x < 1114112) (W : Hold F ((D, .lst ys) :: L) H) (hy : DpAll c.K F ys (List.replicate n (refusedD (T s)))) (hn : n < 1000)
    (k : ∀ F3 H3, Same F F3 → Hold F3 ((D, .lst ys) :: L) H3 → QQ (.bl false) H3) :
    aTup [.str sRefused, .str (T s)] H fun v H1 => tNil σ0 H1 fun xs H2 => aLst (v :: xs) H2 fun v2 H2 => tC (.int (n : Int)) σ H2 fun y H3 => uMul c.K v2 y H3 fun y H4 => uNe c.K (.ref D) y H4 QQ :=
  n_tupF W (sz rfl) fun q F1 H1 e1 h1 W1 => x_nil (n_lstF W1 (sz rfl) fun r F2 H2 e2 h2 W2 => x_c (n_mul1F W2 (W2.old _ _ h2) (j := (n : Int)) (by omega) (fun p F3 H3 e3 h3 W3 => by
    have hq : Dp c.K F3 (.ref q) (refusedD (T s)) := (Gr.of (e2.trans e3)).dp (refused_dp h1)
    have shr : Sh 2 (.list (List.replicate n (refusedD (T s)))) := .lst fun z hz => by rw [List.eq_of_mem_replicate hz]; exact refused_sh hs
    have ha := dpAll_rep hq n
    rw [Int.toNat_natCast] at h3
    refine l_neD (.lst (sq_of W3.get0) (W3.gr.dpAll ((Gr.of (e1.trans (e2.trans e3))).dpAll hy))) (.lst (sq_of (W3.old _ _ h3)) (W3.gr.dpAll ha)) (shr.shaped (by decide)) (shr.shaped (by decide)) ?_
    rw [shr.eqv]
    exact k F3 H3 (e1.trans (e2.trans e3)) W3) (by omega)))
end
end Ss
/-! ## Tapes: the model, how one lies, readings -/
namespace Ss
open PySem PySem.Spec PyProof.Rows L2
/-! ### the attributes of a Tape -/
def fsTape (x0 x1 x2 : V) : List (Str × V) := [("sizes", x0), ("rows", x1), ("taken", x2)]
theorem fsTape_len {x0 x1 x2 : V} : (fsTape x0 x1 x2).length < 1000 := by show 3 < 1000; decide
theorem fsTape_g0 {x0 x1 x2 : V} : (fsTape x0 x1 x2).lookup ("sizes" : Str) = some x0 := by kernel_rfl
theorem fsTape_p0 {x0 x1 x2 y : V} : putF "sizes" y (fsTape x0 x1 x2) = fsTape y x1 x2 := by kernel_rfl
theorem fsTape_g1 {x0 x1 x2 : V} : (fsTape x0 x1 x2).lookup ("rows" : Str) = some x1 := by kernel_rfl
theorem fsTape_p1 {x0 x1 x2 y : V} : putF "rows" y (fsTape x0 x1 x2) = fsTape x0 y x2 := by kernel_rfl
theorem fsTape_g2 {x0 x1 x2 : V} : (fsTape x0 x1 x2).lookup ("taken" : Str) = some x2 := by kernel_rfl
theorem fsTape_p2 {x0 x1 x2 y : V} : putF "taken" y (fsTape x0 x1 x2) = fsTape x0 x1 y := by kernel_rfl
theorem fsTape_m_record {x0 x1 x2 : V} : (fsTape x0 x1 x2).lookup ("record" : Str) = none := by kernel_rfl
theorem fsTape_m_undo {x0 x1 x2 : V} : (fsTape x0 x1 x2).lookup ("undo" : Str) = none := by kernel_rfl
theorem fsTape_m_redo {x0 x1 x2 : V} : (fsTape x0 x1 x2).lookup ("redo" : Str) = none := by kernel_rfl
theorem fsTape_m_length {x0 x1 x2 : V} : (fsTape x0 x1 x2).lookup ("length" : Str) = none := by kernel_rfl
theorem fsTape_m_records {x0 x1 x2 : V} : (fsTape x0 x1 x2).lookup ("records" : Str) = none := by kernel_rfl
theorem fsTape_m_need_tick {x0 x1 x2 : V} : (fsTape x0 x1 x2).lookup ("need_tick" : Str) = none := by kernel_rfl
theorem fsTape_m_screen_behind {x0 x1 x2 : V} : (fsTape x0 x1 x2).lookup ("screen_behind" : Str) = none := by kernel_rfl
theorem fsTape_m_page_at {x0 x1 x2 : V} : (fsTape x0 x1 x2).lookup ("page_at" : Str) = none := by kernel_rfl
theorem fsTape_m_cursor_at {x0 x1 x2 : V} : (fsTape x0 x1 x2).lookup ("cursor_at" : Str) = none := by kernel_rfl
theorem fsTape_m_changes_at {x0 x1 x2 : V} : (fsTape x0 x1 x2).lookup ("changes_at" : Str) = none := by kernel_rfl
theorem fsTape_m_first_with {x0 x1 x2 : V} : (fsTape x0 x1 x2).lookup ("first_with" : Str) = none := by kernel_rfl
/-- what is asked of the class -/
structure FTape (c : Ctx) : Prop where
  cl : Cls c.K c.cTape
  n_sizes : NoAttr c.K c.cTape "sizes"
  n_rows : NoAttr c.K c.cTape "rows"
  n_taken : NoAttr c.K c.cTape "taken"

open Ss in
local macro_rules | `(tactic| walk_at "fg") => `(tactic| first | with_reducible exact fsTape_g0 | with_reducible exact fsTape_g1 | with_reducible exact fsTape_g2 | with_reducible exact fsScreen_g0 | with_reducible exact fsScreen_g1 | with_reducible exact fsScreen_g2 | with_reducible exact fsScreen_g3 | with_reducible exact fsScreen_g4 | with_reducible exact fsScreen_g5 | with_reducible exact fsScreen_g6 | with_reducible exact fsScreen_g7 | with_reducible exact fsScreen_g8 | with_reducible exact fsScreen_g9 | with_reducible exact fsScreen_g10 | with_reducible exact fsScreen_g11 | with_reducible exact fsScreen_g12 | with_reducible exact fsScreen_g13)
open Ss in
local macro_rules | `(tactic| walk_at "r") => `(tactic| repeat (first
  | with_reducible refine x_seq ?_ | with_reducible refine x_asg ?_ | with_reducible refine x_var rfl ?_ | with_reducible refine x_c ?_ | with_reducible refine x_op ?_ | with_reducible refine x_name ?_ | with_reducible refine x_gcons ?_ | with_reducible refine x_gnil ?_
  | with_reducible refine x_cons ?_ | with_reducible refine x_nil ?_ | with_reducible refine x_cb ?_ | with_reducible refine x_ifs ?_ | with_reducible refine x_test ?_ | with_reducible refine x_bl ?_
  | with_reducible refine g_addNN ?_ | with_reducible refine g_addNL ?_ | with_reducible refine g_addLN ?_ | with_reducible refine l_addI ?_ | with_reducible refine l_subI ?_ | with_reducible refine g_ltNL ?_ | with_reducible refine l_ltI ?_ | with_reducible refine l_leI ?_ | with_reducible refine l_gtI ?_ | with_reducible refine l_geI ?_ | with_reducible refine l_eqX ?_ | with_reducible refine l_neX ?_ | with_reducible refine g_eqNL ?_ | with_reducible refine l_eqII ?_ | with_reducible refine l_neII ?_ | with_reducible refine l_eq rfl ?_ | with_reducible refine l_ne rfl ?_
  | with_reducible refine x_fld ?_ | with_reducible refine x_ret ?_ | with_reducible refine x_drop ?_ | with_reducible refine x_next ?_ | with_reducible refine x_tup ?_ | with_reducible refine x_lst ?_ | with_reducible refine x_f ?_ | with_reducible refine x_o ?_ | with_reducible refine x_n ?_
  | with_reducible refine x_bm ?_ | with_reducible refine x_bm0 ?_ | with_reducible refine x_m1 ?_ | with_reducible refine x_m0 ?_ | with_reducible refine x_isstr ?_ | with_reducible refine x_tystr ?_ | with_reducible refine x_sl ?_ | with_reducible refine x_part ?_ | with_reducible refine x_part' ?_ | with_reducible refine x_nopart ?_
  | with_reducible refine x_sfld ?_ | with_reducible refine x_if ?_ | with_reducible refine x_isty ?_ | with_reducible refine x_chain ?_ | with_reducible refine x_andV ?_ | with_reducible refine x_orV ?_ | with_reducible refine x_notV ?_ | with_reducible refine x_B ?_ | with_reducible refine x_and ?_ | with_reducible refine x_or ?_ | with_reducible refine x_not ?_ | with_reducible refine x_tru ?_ | with_reducible refine x_yes ?_
  | with_reducible refine x_un ?_ | with_reducible refine x_neg ?_ | with_reducible refine x_par ?_ | with_reducible refine x_par' ?_ | with_reducible refine x_retN ?_ | with_reducible refine x_brk ?_ | with_reducible refine x_cont ?_ | with_reducible refine x_rz ?_
  | with_reducible refine l_leS ?_ | with_reducible refine l_ltS ?_ | with_reducible refine l_inX ?_ | with_reducible refine l_niX ?_ | with_reducible refine l_inS ?_ | with_reducible refine l_niS ?_ | with_reducible refine l_count ?_ | with_reducible refine l_ord ?_ | with_reducible refine l_max ?_ | with_reducible refine l_min ?_ | with_reducible refine l_intI ?_ | with_reducible refine l_intB ?_ | with_reducible refine l_is ?_ | with_reducible refine l_isn ?_
  | with_reducible refine g_modNL (by decide) ?_ | with_reducible refine g_divNL (by decide) (by decide) ?_ | with_reducible refine l_modI (by decide) ?_ | with_reducible refine x_for ?_ | with_reducible refine x_lc ?_ | with_reducible refine x_ilist ?_ | with_reducible refine x_itup ?_ | with_reducible refine x_istr ?_ | with_reducible refine x_istr' ?_ | with_reducible refine x_irng1 ?_ | with_reducible refine x_irng2 ?_
  | (with_reducible refine x_get (by first | assumption | exact Hold.get0 (by assumption) | exact Hold.get1 (by assumption)) (by assumption) (by assumption) (by walk_at "fg") ?_)
  | (with_reducible refine x_ao (by first | assumption | exact Hold.get0 (by assumption) | exact Hold.get1 (by assumption)) (by kernel_rfl) ?_)
  | with_reducible refine x_ienum ?_ | with_reducible refine x_izip ?_ | with_reducible refine x_chain3 ?_
  | (with_reducible refine x_par2 ?_)
  | (with_reducible refine x_par3 ?_) | (with_reducible refine x_par3' ?_)))
open Ss in
local macro_rules | `(tactic| walk_at "lit") => `(tactic| repeat (first
  | with_reducible exact lit_non | with_reducible exact lit_bl | with_reducible exact lit_int | with_reducible exact lit_str | with_reducible exact lit_neg | with_reducible exact lits_nil
  | with_reducible exact lit_num (num_var rfl) | with_reducible exact lit_var rfl (by assumption)
  | with_reducible refine lits_cons ?_ ?_ | with_reducible refine lit_tup ?_ (Nat.le_of_ble_eq_true rfl) | with_reducible refine lit_lst ?_ (Nat.le_of_ble_eq_true rfl) | with_reducible refine litL_lst ?_ (Nat.le_of_ble_eq_true rfl)))
abbrev Rec : Type := Nat × List Nat
def recD (r : Rec) : PyData := .tuple [.int (r.1 : Nat), .str (T r.2)]
structure Tape where
  wide : Nat
  high : Nat
  most : Nat
  rows : List Rec
  taken : List Rec
namespace Tape
def new (w h m : Nat) : Tape := ⟨w, h, m, [], []⟩
def length (S : Tape) : Nat := match S.rows.getLast? with
  | some r => r.1
  | none => 0
def record (S : Tape) (t : Nat) (l : List Nat) : Tape := { S with rows := S.rows ++ [(S.length + t, l)], taken := [] }
def undo (S : Tape) : Tape := { S with rows := S.rows.dropLast, taken := S.taken ++ S.rows.getLast?.toList }
def redo (S : Tape) : Tape := { S with rows := S.rows ++ S.taken.getLast?.toList, taken := S.taken.dropLast }
noncomputable def screenAt (S : Tape) (k : Int) : Scr := (S.rows.filter fun r => decide ((r.1 : Int) ≤ k)).foldl (fun s r => s.fed r.2) (Scr.new S.wide S.high S.most)
structure Wf (S : Tape) : Prop where
  w1 : 2 ≤ S.wide ∧ S.wide ≤ 60
  h1 : 2 ≤ S.high ∧ S.high ≤ 40
  m : S.most ≤ 200
  n : S.rows.length + S.taken.length ≤ 60
  ok : ∀ r ∈ S.rows, okText (.str (T r.2)) = true
  ok2 : ∀ r ∈ S.taken, okText (.str (T r.2)) = true
end Tape
structure TapeC where
  dx : Addr
  z : Addr
  r : Addr
  t : Addr
  ys : List V
  zs : List V
abbrev tapeO (c : Ctx) (C : TapeC) : HO := .ins c.cTape C.dx (fsTape (.ref C.z) (.ref C.r) (.ref C.t))
abbrev tapeL (c : Ctx) (a : Addr) (C : TapeC) (L : List (Addr × HO)) : List (Addr × HO) := (a, tapeO c C) :: (C.r, .lst C.ys) :: (C.t, .lst C.zs) :: L
structure TapeAt (c : Ctx) (F : Hp) (C : TapeC) (S : Tape) : Prop where
  wf : S.Wf
  z : SqT c.K F C.z [.int (S.wide : Nat), .int (S.high : Nat), .int (S.most : Nat)]
  rows : DpAll c.K F C.ys (S.rows.map recD)
  taken : DpAll c.K F C.zs (S.taken.map recD)
theorem TapeAt.gr {c : Ctx} {F F' : Hp} {C : TapeC} {S : Tape} (g : Gr F F') (A : TapeAt c F C S) : TapeAt c F' C S := ⟨A.wf, g.sqT A.z, g.dpAll A.rows, g.dpAll A.taken⟩
/-- a tape so, at the end -/
abbrev TapeTo (c : Ctx) (a : Addr) (F : Hp) (L : List (Addr × HO)) (S : Tape) (Q : Hp → Prop) : Prop := ∀ C F' H', Same F F' → TapeAt c F' C S → Hold F' (tapeL c a C L) H' → Q H'
/-- the same tape, a thing told -/
abbrev TapeTell (a : Addr) (c : Ctx) (C : TapeC) (F : Hp) (L : List (Addr × HO)) (Q : Hp → Prop) : Prop := ∀ F' H', Same F F' → Hold F' (tapeL c a C L) H' → Q H'
def sp_Tape_init (c : Ctx) : Sp := fun vs H Q E => ∃ (a dx : Addr) (x y z : V) (F : Hp) (L : List (Addr × HO)), vs = [.ref a, x, y, z] ∧ CntArg c F x ∧ CntArg c F y ∧ CntArg c F z ∧ Hold F ((a, .ins c.cTape dx []) :: L) H ∧
  (∀ w h m : Nat, x = .int (w : Nat) → y = .int (h : Nat) → z = .int (m : Nat) → (2 ≤ w ∧ w ≤ 60) → (2 ≤ h ∧ h ≤ 40) → m ≤ 200 → TapeTo c a F L (Tape.new w h m) (Q .non)) ∧ (sizeOk x y z = false → ∀ H', Hold F ((a, .ins c.cTape dx []) :: L) H' → E (.ref c.cBadSize) none H')
def sp_Tape_length (c : Ctx) : Sp := fun vs H Q _ => ∃ (a : Addr) (C : TapeC) (S : Tape) (F : Hp) (L : List (Addr × HO)), vs = [.ref a] ∧ TapeAt c F C S ∧ Hold F (tapeL c a C L) H ∧ TapeTell a c C F L (Q (.int (S.length : Nat)))
def sp_Tape_records (c : Ctx) : Sp := fun vs H Q _ => ∃ (a : Addr) (C : TapeC) (S : Tape) (F : Hp) (L : List (Addr × HO)), vs = [.ref a] ∧ TapeAt c F C S ∧ Hold F (tapeL c a C L) H ∧ ∀ p H', Hold F ((p, .lst C.ys) :: tapeL c a C L) H' → Q (.ref p) H'
def sp_Tape_record (c : Ctx) : Sp := fun vs H Q E => ∃ (a : Addr) (C : TapeC) (S : Tape) (x y : V) (F : Hp) (L : List (Addr × HO)), vs = [.ref a, x, y] ∧ CntArg c F x ∧ TextArg c F y ∧ TapeAt c F C S ∧ Hold F (tapeL c a C L) H ∧
  ((cntOk x 0 1000 && decide (S.rows.length < 60)) = false → TapeTell a c C F L (E (.ref c.cBadTick) none)) ∧
  ((cntOk x 0 1000 && decide (S.rows.length < 60)) = true → okText y = false → TapeTell a c C F L (E (.ref c.cBadText) none)) ∧
  (∀ (t : Nat) l, x = .int (t : Nat) → y = .str (T l) → t ≤ 1000 → S.rows.length < 60 → okText y = true → TapeTo c a F L (S.record t l) (Q .non))
def sp_Tape_undo (c : Ctx) : Sp := fun vs H Q E => ∃ (a : Addr) (C : TapeC) (S : Tape) (F : Hp) (L : List (Addr × HO)), vs = [.ref a] ∧ TapeAt c F C S ∧ Hold F (tapeL c a C L) H ∧
  (S.rows = [] → TapeTell a c C F L (E (.ref c.cNothing) none)) ∧ (S.rows ≠ [] → TapeTo c a F L S.undo (Q .non))
def sp_Tape_need_tick (c : Ctx) : Sp := fun vs H Q E => ∃ (a : Addr) (C : TapeC) (S : Tape) (x : V) (F : Hp) (L : List (Addr × HO)), vs = [.ref a, x] ∧ CntArg c F x ∧ TapeAt c F C S ∧ Hold F (tapeL c a C L) H ∧
  (cntOk x 0 (S.length : Nat) = true → TapeTell a c C F L (Q .non)) ∧ (cntOk x 0 (S.length : Nat) = false → TapeTell a c C F L (E (.ref c.cBadTick) none))
def sp_Tape_screen_behind (c : Ctx) : Sp := fun vs H Q _ => ∃ (a : Addr) (C : TapeC) (S : Tape) (k : Int) (F : Hp) (L : List (Addr × HO)), vs = [.ref a, .int k] ∧ TapeAt c F C S ∧ Hold F (tapeL c a C L) H ∧
  ∀ s C2 F' H', Same F F' → ScrAt c F' C2 (S.screenAt k) → Hold F' (scrL c s C2 (S.screenAt k) (tapeL c a C L)) H' → Q (.ref s) H'
abbrev v_MOST_TICKS (_ : Ctx) : V := .int 1000
abbrev v_MOST_RECORDS (_ : Ctx) : V := .int 60
abbrev v_MOST_WORD (_ : Ctx) : V := .int 20
def t_Tape_init (c : Ctx) (E : XK) : TS :=
  (tSeq (tDrop (tN c.cScreen (sp_Screen_init c) E (tCons (tVar 1) (tCons (tVar 2) (tCons (tVar 3) tNil)))))
  (tSeq (sFld c.K (tVar 0) (tTup (tCons (tVar 1) (tCons (tVar 2) (tCons (tVar 3) tNil)))) "sizes")
  (tSeq (sFld c.K (tVar 0) (tLst tNil) "rows")
  (sFld c.K (tVar 0) (tLst tNil) "taken"))))
abbrev N_Tape_init : List Str := ["self", "wide", "high", "most"]

def t_Tape_length (c : Ctx) (E : XK) : TS :=
  (tRet (tIf (tTest (tOp (uNe c.K) (tFld c.K (tVar 0) "rows") (tLst tNil))) (tOp (uIx c.K) (tOp (uIx c.K) (tFld c.K (tVar 0) "rows") (tUn (rU fun i => .int (-i)) (tC (.int 1)))) (tC (.int 0))) (tC (.int 0))))
abbrev N_Tape_length : List Str := ["self"]

def t_Tape_records (c : Ctx) (E : XK) : TS :=
  (tRet (tCB (uList c.K) (tCons (tFld c.K (tVar 0) "rows") tNil)))
abbrev N_Tape_records : List Str := ["self"]

def t_Tape_record (c : Ctx) (E : XK) : TS :=
  (tSeq (tIfS (tOr (tNot (tB (tF (sp_is_count c) E0 (tCons (tVar 1) (tCons (tC (.int 0)) (tCons (tC (v_MOST_TICKS c)) tNil)))))) (tTest (tOp uGe (tCB (uLen c.K) (tCons (tFld c.K (tVar 0) "rows") tNil)) (tC (v_MOST_RECORDS c))))) (tRz c.cBadTick E) tNext)
  (tSeq (tDrop (tF (sp_need_text c) E (tCons (tVar 2) tNil)))
  (tSeq (tDrop (tBM c.K "list" rAppend (tFld c.K (tVar 0) "rows") (tCons (tTup (tCons (tOp (uAdd c.K) (tO c.cTape "length" (sp_Tape_length c) E0 (tVar 0) tNil) (tVar 1)) (tCons (tVar 2) tNil))) tNil)))
  (sFld c.K (tVar 0) (tLst tNil) "taken"))))
abbrev N_Tape_record : List Str := ["self", "ticks", "text"]

def t_Tape_undo (c : Ctx) (E : XK) : TS :=
  (tSeq (tIfS (tTest (tOp (uEq c.K) (tFld c.K (tVar 0) "rows") (tLst tNil))) (tRz c.cNothing E) tNext)
  (tDrop (tBM c.K "list" rAppend (tFld c.K (tVar 0) "taken") (tCons (tBM0 c.K "list" rPop (tFld c.K (tVar 0) "rows")) tNil))))
abbrev N_Tape_undo : List Str := ["self"]

def t_Tape_need_tick (c : Ctx) (E : XK) : TS :=
  (tIfS (tNot (tB (tF (sp_is_count c) E0 (tCons (tVar 1) (tCons (tC (.int 0)) (tCons (tO c.cTape "length" (sp_Tape_length c) E0 (tVar 0) tNil) tNil)))))) (tRz c.cBadTick E) tNext)
abbrev N_Tape_need_tick : List Str := ["self", "tick"]

def t_Tape_screen_behind (c : Ctx) (E : XK) : TS :=
  (tSeq (tAsg (tFld c.K (tVar 0) "sizes") (gTup c.K 3 (gCons (gName 2) (gCons (gName 3) (gCons (gName 4) gNil)))))
  (tSeq (tAsg (tN c.cScreen (sp_Screen_init c) E (tCons (tVar 2) (tCons (tVar 3) (tCons (tVar 4) tNil)))) (gName 5))
  (tSeq (tFor (iList c.K (tFld c.K (tVar 0) "rows")) (gTup c.K 2 (gCons (gName 6) (gCons (gName 7) gNil))) (tIfS (tTest (tOp uLe (tVar 6) (tVar 1))) (tDrop (tO c.cScreen "feed" (sp_Screen_feed c) E (tVar 5) (tCons (tVar 7) tNil))) tNext))
  (tRet (tVar 5)))))
abbrev N_Tape_screen_behind : List Str := ["self", "tick", "wide", "high", "most", "screen", "own", "text"]

section
variable {c : Ctx}
theorem x_init_bad {x y z : V} {F H : Hp} {L : List (Addr × HO)} {Q : VK} {E : XK} (cx : CntArg c F x) (cy : CntArg c F y) (cz : CntArg c F z) (W : Hold F L H) (h : sizeOk x y z = false) (k : ∀ H', Hold F L H' → E (.ref c.cBadSize) none H') : aN c.cScreen (sp_Screen_init c) E [x, y, z] H Q := by
  refine x_an W fun s dx H2 W2 => ⟨s, dx, x, y, z, F, L, rfl, cx, cy, cz, W2, fun w h' m ew eh em hw hh hm => absurd h ?_, fun _ => k H2 W2.drop⟩
  subst ew eh em
  rw [sizeOk_nat hw hh hm]; decide
theorem scrL_gone {F H : Hp} {s : Addr} {C : ScrC} {S : Scr} {L : List (Addr × HO)} (W : Hold F (scrL c s C S L) H) : ∃ F', Same F F' ∧ Hold F' L H := by
  rw [scrL_split] at W
  obtain ⟨F', e, W', _⟩ := Hold.freezeL _ W
  exact ⟨F', e, W'⟩
theorem rd_Tape_init (R : FTape c) : RD N_Tape_init (t_Tape_init c) (sp_Tape_init c) := by
  have cl := R.cl
  rintro vs H Q E ⟨a, dx, x, y, z, F, L, rfl, cx, cy, cz, W, kk, kb⟩
  unfold t_Tape_init
  walk_at "r"
  cases hk : sizeOk x y z with
  | false => exact x_init_bad cx cy cz W hk fun H' W' => kb hk H' W'
  | true =>
  have hk' : (cntOk x 2 60 && cntOk y 2 40 && cntOk z 0 200) = true := hk
  rw [Bool.and_eq_true, Bool.and_eq_true] at hk'
  obtain ⟨⟨c1, c2⟩, c3⟩ := hk'
  obtain ⟨w, rfl, w1, w2'⟩ := cntOk_get (lo := 2) c1
  obtain ⟨h, rfl, h1, h2⟩ := cntOk_get (lo := 2) c2
  obtain ⟨m, rfl, _, hm'⟩ := cntOk_get (lo := 0) c3
  refine x_newScreen (m := m) rfl W ⟨w1, by omega⟩ ⟨h1, by omega⟩ (by omega) fun s C F1 H1 e1 _ W1 => ?_
  obtain ⟨F2, e2, W2⟩ := scrL_gone W1
  walk_at "r"
  refine n_tupF W2 (sz rfl) fun p F3 H3 e3 h3 W3 => ?_
  walk_at "r"
  refine x_put0 (fs' := [("sizes", .ref p)]) W3 cl R.n_sizes (by show 0 < 1000; decide) (by kernel_rfl) fun H4 W4 => ?_
  walk_at "r"
  refine n_lstL W4 (sz rfl) fun r H5 W5 => ?_
  walk_at "r"
  refine x_putI (fs' := [("sizes", .ref p), ("rows", .ref r)]) 1 W5 rfl cl R.n_rows (by show 1 < 1000; decide) (by kernel_rfl) fun H6 W6 => ?_
  walk_at "r"
  refine n_lstL W6 (sz rfl) fun t H7 W7 => ?_
  walk_at "r"
  refine x_putI (fs' := fsTape (.ref p) (.ref r) (.ref t)) 2 W7 rfl cl R.n_taken (by show 2 < 1000; decide) (by kernel_rfl) fun H8 W8 => ?_
  refine kk w h m rfl rfl rfl ⟨w1, by omega⟩ ⟨h1, by omega⟩ (by omega) ⟨dx, p, r, t, [], []⟩ F3 H8 (e1.trans (e2.trans e3)) ⟨⟨⟨w1, by show w ≤ 60; omega⟩, ⟨h1, by show h ≤ 40; omega⟩, by show m ≤ 200; omega, Nat.zero_le _, fun _ h => (nomatch h), fun _ h => (nomatch h)⟩, st_of h3, .nil, .nil⟩ ?_
  exact W8.perm ((List.reverse_perm [(a, HO.ins c.cTape dx (fsTape (.ref p) (.ref r) (.ref t))), (r, .lst []), (t, .lst [])]).append_right L)
theorem rev3 {x y z : Addr × HO} {M : List (Addr × HO)} : List.Perm (x :: y :: z :: M) (z :: y :: x :: M) := (List.reverse_perm [z, y, x]).append_right M
/-- a heap of one thing -/
def oneH (a : Addr) (o : HO) : Hp := upd (fun _ => none) a o
theorem oneH_at {a : Addr} {o : HO} : oneH a o a = some o := upd_same
theorem oneH_gr {a : Addr} {o : HO} {H : Hp} (h : H a = some o) : Gr (oneH a o) H := Gr.of fun b x e => by
  by_cases hb : b = a
  · subst hb
    rw [oneH_at] at e
    exact h.trans e
  · have e' : upd (fun _ => none) a o b = some x := e
    rw [upd_ne hb] at e'
    cases e'
/-- D.pop() of one's own -/
theorem x_pop {F H : Hp} {L : List (Addr × HO)} {D : Addr} {ys : List V} {v : V} {Q : VK} (W : Hold F ((D, .lst (ys ++ [v])) :: L) H) (q : ∀ H', Hold F ((D, .lst ys) :: L) H' → Q v H') : rPop (.ref D) [] H Q :=
  ⟨D, ys ++ [v], v, rfl, rfl, W.get0, by simp, by rw [List.dropLast_concat]; exact q _ W.put0⟩
theorem recs_sh {rs : List Rec} (h : ∀ r ∈ rs, okText (.str (T r.2)) = true) : Sh 2 (.list (rs.map recD)) := .lst fun d hd => by
  obtain ⟨r, hr, rfl⟩ := List.mem_map.mp hd
  refine .tup fun x hx => ?_
  rcases List.mem_cons.mp hx with rfl | hx
  · exact .int
  rw [List.mem_singleton.mp hx]
  exact .str fun n hn => by
    have z := (okText_inv (h r hr)).1 n hn
    unfold isSign at z
    simp only [Bool.or_eq_true, Bool.and_eq_true, decide_eq_true_eq, beq_iff_eq] at z
    omega
theorem recs_last {K : PySem.W.Frag} {F : Hp} {ys : List V} {rs : List Rec} {r : Rec} (h : DpAll K F ys ((rs ++ [r]).map recD)) : ∃ ys0 v, ys = ys0 ++ [v] ∧ DpAll K F ys0 (rs.map recD) ∧ Dp K F v (recD r) := by
  have hl := dpAll_len h
  rw [List.length_map, List.length_append, List.length_singleton] at hl
  have e : ys = ys.take rs.length ++ [ys.getD rs.length .non] := by
    refine List.ext_getElem? fun i => ?_
    by_cases hi : i < rs.length
    · rw [List.getElem?_append_left (by rw [List.length_take]; omega), List.getElem?_take_of_lt hi]
    · rw [List.getElem?_append_right (by rw [List.length_take]; omega), List.length_take, Nat.min_eq_left (by omega)]
      by_cases h2 : i = rs.length
      · subst h2; rw [Nat.sub_self, List.getD_eq_getElem?_getD, List.getElem?_eq_getElem (by omega)]; rfl
      · rw [List.getElem?_eq_none (by omega), List.getElem?_eq_none (by simp; omega)]
  refine ⟨_, _, e, ?_, ?_⟩
  · have z := dpAll_take rs.length h
    rw [List.map_append, List.take_left' (by rw [List.length_map])] at z
    exact z
  · have z := dpAll_get h rs.length (by simp)
    rw [List.map_append, List.getD_eq_getElem?_getD (l := List.map recD rs ++ _), List.getElem?_append_right (by simp), List.length_map, Nat.sub_self] at z
    exact z
theorem snoc_of {α : Type} {l : List α} (h : l ≠ []) : ∃ l0 x, l = l0 ++ [x] := ⟨l.dropLast, l.getLast h, (List.dropLast_concat_getLast h).symm⟩
theorem Tape.length_snoc {S : Tape} {rs : List Rec} {r : Rec} (h : S.rows = rs ++ [r]) : S.length = r.1 := by
  unfold Tape.length; rw [h, List.getLast?_append]; rfl
theorem Tape.length_nil {S : Tape} (h : S.rows = []) : S.length = 0 := by
  unfold Tape.length; rw [h]; rfl
theorem eqv_nil {ds : List PyData} (h : ds ≠ []) : PyData.eqv (.list ds) (.list []) = false := by
  cases ds with
  | nil => exact absurd rfl h
  | cons d l => rfl
theorem rd_Tape_length (R : FTape c) : RD N_Tape_length (t_Tape_length c) (sp_Tape_length c) := by
  have cl := R.cl
  have n1 := R.n_rows
  rintro vs H Q E ⟨a, C, S, F, L, rfl, A, W, kk⟩
  unfold t_Tape_length
  walk_at "r"
  refine n_lstF W (sz rfl) fun q F1 H1 e1 h1 W1 => ?_
  have A1 := A.gr (Gr.of e1)
  have e0 : Dp c.K F1 (.ref q) (.list []) := .lst (sq_of h1) .nil
  have shr := recs_sh A.wf.ok
  refine l_neD (d := .list (S.rows.map recD)) (e := .list []) (.lst (sq_of W1.get1) (W1.gr.dpAll A1.rows)) (W1.gr.dp e0) (shr.shaped (by decide)) rfl ?_
  by_cases hn : S.rows = []
  · have e : PyData.eqv (.list (S.rows.map recD)) (.list []) = true := by rw [hn]; rfl
    rw [e]
    walk_at "r"
    refine wF rfl ?_
    walk_at "r"
    have z := kk F1 H1 e1 W1
    rw [Tape.length_nil hn] at z
    exact z
  · have e : PyData.eqv (.list (S.rows.map recD)) (.list []) = false := eqv_nil (by simpa using hn)
    rw [e]
    walk_at "r"
    refine wT rfl ?_
    walk_at "r"
    obtain ⟨rs, r, er⟩ := snoc_of hn
    have ha := A1.rows
    rw [er] at ha
    obtain ⟨ys0, v, ey, _, hv⟩ := recs_last ha
    obtain ⟨p, vs, rfl, hp, hpa⟩ := tup_view hv
    refine l_ixL (sq_of (W1.own (C.r, .lst C.ys) (by simp))) (by rw [ey]; exact atI_last) ?_
    cases hpa with | cons h1 hpa => cases hpa with | cons h2 hpa =>
    cases hpa
    cases h1
    walk_at "r"
    refine l_ixT (W1.gr.sqT hp) (by rfl) ?_
    have z := kk F1 H1 e1 W1
    rw [Tape.length_snoc er] at z
    exact z
theorem rd_Tape_records (R : FTape c) : RD N_Tape_records (t_Tape_records c) (sp_Tape_records c) := by
  have cl := R.cl
  have n1 := R.n_rows
  rintro vs H Q E ⟨a, C, S, F, L, rfl, A, W, kk⟩
  unfold t_Tape_records
  walk_at "r"
  refine n_listL W (.inl (sq_of W.get1)) fun p H1 W1 => ?_
  exact kk p H1 W1
theorem rd_Tape_need_tick (R : FTape c) : RD N_Tape_need_tick (t_Tape_need_tick c) (sp_Tape_need_tick c) := by
  have cl := R.cl
  rintro vs H Q E ⟨a, C, S, x, F, L, rfl, cx, A, W, k1, k2⟩
  unfold t_Tape_need_tick
  walk_at "r"
  refine ⟨a, C, S, F, L, rfl, A, W, fun F1 H1 e1 W1 => ?_⟩
  walk_at "r"
  refine ⟨_, _, _, rfl, (cx.gr (Gr.of e1)).gr W1.gr, ?_⟩
  walk_at "r"
  cases hk : cntOk x 0 (S.length : Nat) with
  | true =>
    refine wF rfl ?_
    walk_at "r"
    exact k1 hk F1 H1 e1 W1
  | false =>
    refine wT rfl ?_
    walk_at "r"
    exact k2 hk F1 H1 e1 W1
theorem rd_Tape_record (R : FTape c) : RD N_Tape_record (t_Tape_record c) (sp_Tape_record c) := by
  have cl := R.cl
  have n1 := R.n_rows
  rintro vs H Q E ⟨a, C, S, x, y, F, L, rfl, cx, ty, A, W, k1, k2, k3⟩
  unfold t_Tape_record
  walk_at "r"
  refine ⟨_, _, _, rfl, cx.gr W.gr, ?_⟩
  have hln := dpAll_len A.rows
  rw [List.length_map] at hln
  have hn60 := A.wf.n
  cases c1 : cntOk x 0 1000 with
  | false =>
    walk_at "r"
    refine wT rfl ?_
    walk_at "r"
    refine wT rfl ?_
    walk_at "r"
    exact k1 (by rw [c1]; rfl) F H (Same.refl F) W
  | true =>
  walk_at "r"
  refine wF rfl ?_
  walk_at "r"
  refine l_lenL (sq_of W.get1) ?_
  rw [hln]
  walk_at "r"
  by_cases c2 : S.rows.length < 60
  case neg =>
    refine wT (decide_eq_true (by omega)) ?_
    walk_at "r"
    exact k1 (by rw [c1, decide_eq_false c2]; rfl) F H (Same.refl F) W
  have c12 : (cntOk x 0 1000 && decide (S.rows.length < 60)) = true := by rw [c1, decide_eq_true c2]; rfl
  refine wF (decide_eq_false (by omega)) ?_
  walk_at "r"
  refine ⟨y, F, _, rfl, ty, W, fun ok F1 H1 e1 W1 => ?_, fun nok F1 H1 e1 W1 => k2 c12 nok F1 H1 e1 W1⟩
  obtain ⟨t, rfl, _, ht⟩ := cntOk_get (lo := 0) c1
  obtain ⟨l, rfl, _⟩ : ∃ l, y = .str (T l) ∧ True := by
    rcases ty with ⟨l, rfl, _⟩ | ⟨_, ne⟩
    · exact ⟨l, rfl, trivial⟩
    · cases y with
      | str z => exact absurd rfl (ne z)
      | _ => cases ok
  walk_at "r"
  refine x_tylst (sq_of W1.get1) ?_
  walk_at "r"
  refine ⟨a, C, S, F1, L, rfl, A.gr (Gr.of e1), W1, fun F2 H2 e2 W2 => ?_⟩
  walk_at "r"
  refine n_tupF W2 (sz rfl) fun q F3 H3 e3 h3 W3 => ?_
  walk_at "r"
  have W3' : Hold F3 ((C.r, .lst C.ys) :: (a, tapeO c C) :: (C.t, .lst C.zs) :: L) H3 := W3.perm (List.Perm.swap _ _ _)
  refine x_app W3' (by omega) fun H4 W4 => ?_
  walk_at "r"
  refine n_lstL W4 (sz rfl) fun t' H5 W5 => ?_
  walk_at "r"
  refine x_putI (fs' := fsTape (.ref C.z) (.ref C.r) (.ref t')) 2 W5 rfl cl R.n_taken fsTape_len (by kernel_rfl) fun H6 W6 => ?_
  have W7 : Hold F3 ((a, tapeO c { C with t := t', ys := C.ys ++ [.ref q], zs := [] }) :: (C.r, .lst (C.ys ++ [.ref q])) :: (t', .lst []) :: (C.t, .lst C.zs) :: L) H6 := W6.perm rev3
  have W8 := W7.sub ((((List.sublist_cons_self _ _).cons₂ _).cons₂ _).cons₂ _)
  have s3 : Same F F3 := e1.trans (e2.trans e3)
  refine k3 t l rfl rfl (by omega) c2 ok { C with t := t', ys := C.ys ++ [.ref q], zs := [] } F3 H6 s3 ⟨⟨A.wf.w1, A.wf.h1, A.wf.m, ?_, ?_, fun _ h => (nomatch h)⟩, (Gr.of s3).sqT A.z, ?_, .nil⟩ W8
  · show (S.rows ++ [(S.length + t, l)]).length + 0 ≤ 60
    rw [List.length_append, List.length_singleton]; omega
  · intro r hr
    rcases List.mem_append.mp hr with hr | hr
    · exact A.wf.ok r hr
    · rw [List.mem_singleton.mp hr]; exact ok
  · show DpAll c.K F3 (C.ys ++ [.ref q]) ((S.rows ++ [(S.length + t, l)]).map recD)
    rw [List.map_append]
    exact dpAll_app ((Gr.of s3).dpAll A.rows) (.cons (.tup (st_of h3) (.cons (.int _) (.cons (.str _) .nil))) .nil)
theorem rd_Tape_undo (R : FTape c) : RD N_Tape_undo (t_Tape_undo c) (sp_Tape_undo c) := by
  have cl := R.cl
  have n1 := R.n_rows
  have n2 := R.n_taken
  rintro vs H Q E ⟨a, C, S, F, L, rfl, A, W, k1, k2⟩
  unfold t_Tape_undo
  walk_at "r"
  refine n_lstF W (sz rfl) fun q F1 H1 e1 h1 W1 => ?_
  have A1 := A.gr (Gr.of e1)
  have e0 : Dp c.K F1 (.ref q) (.list []) := .lst (sq_of h1) .nil
  have shr := recs_sh A.wf.ok
  refine l_eqD (d := .list (S.rows.map recD)) (e := .list []) (.lst (sq_of W1.get1) (W1.gr.dpAll A1.rows)) (W1.gr.dp e0) (shr.shaped (by decide)) rfl ?_
  by_cases hn : S.rows = []
  · have e : PyData.eqv (.list (S.rows.map recD)) (.list []) = true := by rw [hn]; rfl
    rw [e]
    walk_at "r"
    refine wT rfl ?_
    walk_at "r"
    exact k1 hn F1 H1 e1 W1
  · have e : PyData.eqv (.list (S.rows.map recD)) (.list []) = false := eqv_nil (by simpa using hn)
    rw [e]
    walk_at "r"
    refine wF rfl ?_
    walk_at "r"
    have gt : H1 C.t = some (.lst C.zs) := W1.own (C.t, .lst C.zs) (by simp)
    refine x_tylst (sq_of gt) ?_
    walk_at "r"
    refine x_tylst (sq_of W1.get1) ?_
    obtain ⟨rs, r, er⟩ := snoc_of hn
    have ha := A1.rows
    rw [er] at ha
    obtain ⟨ys0, v, ey, hy0, hv⟩ := recs_last ha
    have hz := dpAll_len A1.taken
    rw [List.length_map] at hz
    have hn60 := A.wf.n
    have W2 : Hold F1 ((C.r, .lst (ys0 ++ [v])) :: (a, tapeO c C) :: (C.t, .lst C.zs) :: L) H1 := by rw [← ey]; exact W1.perm (List.Perm.swap _ _ _)
    refine x_pop W2 fun H3 W3 => ?_
    walk_at "r"
    have W4 := W3.perm rev3
    refine x_app W4 (by omega) fun H5 W5 => ?_
    have W6 : Hold F1 ((a, tapeO c C) :: (C.r, .lst ys0) :: (C.t, .lst (C.zs ++ [v])) :: L) H5 := W5.perm (rev3.trans ((List.Perm.swap _ _ _)))
    have eu : S.undo = { S with rows := rs, taken := S.taken ++ [r] } := by
      unfold Tape.undo
      rw [er, List.dropLast_concat, List.getLast?_append]; rfl
    refine k2 hn { C with ys := ys0, zs := C.zs ++ [v] } F1 H5 e1 ?_ W6
    rw [eu]
    refine ⟨⟨A.wf.w1, A.wf.h1, A.wf.m, ?_, ?_, ?_⟩, A1.z, hy0, ?_⟩
    · show rs.length + (S.taken ++ [r]).length ≤ 60
      rw [er, List.length_append, List.length_singleton] at hn60
      rw [List.length_append, List.length_singleton]; omega
    · exact fun x hx => A.wf.ok x (by rw [er]; exact List.mem_append_left _ hx)
    · intro x hx
      rcases List.mem_append.mp hx with hx | hx
      · exact A.wf.ok2 x hx
      · rw [List.mem_singleton.mp hx]; exact A.wf.ok r (by rw [er]; simp)
    · show DpAll c.K F1 (C.zs ++ [v]) ((S.taken ++ [r]).map recD)
      rw [List.map_append]
      exact dpAll_app A1.taken (.cons hv .nil)
theorem filter_snoc {α : Type} {p : α → Bool} {l : List α} {x : α} : (l ++ [x]).filter p = l.filter p ++ (if p x then [x] else []) := by
  rw [List.filter_append, List.filter_cons]; rfl
theorem rd_Tape_screen_behind (R : FTape c) (R2 : FScreen c) : RD N_Tape_screen_behind (t_Tape_screen_behind c) (sp_Tape_screen_behind c) := by
  have cl := R.cl
  have n1 := R.n_rows
  have n2 := R.n_sizes
  rintro vs H Q E ⟨a, C, S, k, F, L, rfl, A, W, kk⟩
  unfold t_Tape_screen_behind
  walk_at "r"
  refine x_gtup (W.gr.sqT A.z) rfl ?_
  walk_at "r"
  refine x_newScreen (m := S.most) rfl W A.wf.w1 A.wf.h1 A.wf.m fun s C1 F1 H1 e1 A1 W1 => ?_
  walk_at "r"
  have hln := dpAll_len A.rows
  rw [List.length_map] at hln
  have own : ∀ {F' H' C' S'}, Hold F' (scrL c s C' S' (tapeL c a C L)) H' → H' a = some (tapeO c C) ∧ H' C.r = some (.lst C.ys) := fun W' => ⟨W'.own (a, tapeO c C) (by simp), W'.own (C.r, .lst C.ys) (by simp)⟩
  refine x_get (own W1).1 cl n1 (by walk_at "fg") ?_
  walk_at "r"
  refine x_ilist' (sq_of (own W1).2) ?_
  let Sc := fun i => ((S.rows.take i).filter fun r => decide ((r.1 : Int) ≤ k)).foldl (fun s r => s.fed r.2) (Scr.new S.wide S.high S.most)
  refine x_forOk (F := oneH C.r (.lst C.ys)) (ItOk.list (sq_of oneH_at)) (fun i σ H' => ∃ z6 z7 C2 F', σ = [some (.ref a), some (.int k), some (.int (S.wide : Nat)), some (.int (S.high : Nat)), some (.int (S.most : Nat)), some (.ref s), z6, z7] ∧ Same F1 F' ∧ ScrAt c F' C2 (Sc i) ∧ Hold F' (scrL c s C2 (Sc i) (tapeL c a C L)) H')
    (fun i σ H' _ ⟨_, _, _, F', _, _, _, W'⟩ => oneH_gr (own W').2) ⟨_, _, C1, F1, rfl, Same.refl F1, A1, W1⟩ ?_ ?_
  · rintro i σ H2 hi ⟨z6, z7, C2, F2, rfl, s2, A2, W2⟩
    have hi' : i < S.rows.length := by rw [← hln]; exact hi
    have hv := (Gr.of (e1.trans s2)).dp (dpAll_get A.rows i (by rw [List.length_map]; exact hi'))
    have er : S.rows.take (i + 1) = S.rows.take i ++ [S.rows.getD i (0, [])] := by
      rw [List.take_succ, List.getElem?_eq_getElem hi', List.getD_eq_getElem?_getD, List.getElem?_eq_getElem hi']; rfl
    rw [getD_map (d := ((0, []) : Rec)) hi'] at hv
    have hok := A.wf.ok _ (getD_mem (d := ((0, []) : Rec)) hi')
    generalize S.rows.getD i (0, []) = r at hv er hok
    obtain ⟨p, vs, ev, hp, ha⟩ := tup_view hv
    rw [ev]
    cases ha with | cons h1 ha => cases ha with | cons h2 ha =>
    cases ha
    cases h1
    cases h2
    refine x_gtup (W2.gr.sqT hp) rfl ?_
    walk_at "r"
    refine wD (fun hle => ?_) (fun hle => ?_)
    · walk_at "r"
      refine sp_feed_ok A2 W2 hok fun C3 F3 H3 e3 A3 W3 => ?_
      walk_at "r"
      have ec : Sc (i + 1) = (Sc i).fed r.2 := by
        show ((S.rows.take (i + 1)).filter _).foldl _ _ = _
        rw [er, filter_snoc, if_pos (decide_eq_true hle), List.foldl_append]; rfl
      rw [← ec] at A3 W3
      exact ⟨_, _, C3, F3, rfl, s2.trans e3, A3, W3⟩
    · walk_at "r"
      have ec : Sc (i + 1) = Sc i := by
        show ((S.rows.take (i + 1)).filter _).foldl _ _ = _
        rw [er, filter_snoc, if_neg (by simpa using hle), List.append_nil]
      rw [← ec] at A2 W2
      exact ⟨_, _, C2, F2, rfl, s2, A2, W2⟩
  · rintro σ H2 ⟨z6, z7, C2, F2, rfl, s2, A2, W2⟩
    walk_at "r"
    have ec : Sc C.ys.length = S.screenAt k := by
      show ((S.rows.take C.ys.length).filter _).foldl _ _ = _
      rw [hln, List.take_length]; rfl
    rw [ec] at A2 W2
    exact kk s C2 F2 H2 (e1.trans s2) A2 W2
end
end Ss
/-! ## the signs of cells, joined -/
namespace Ss
open PySem PySem.Spec PyProof.Rows L2
section
variable {K : PySem.W.Frag} {F H : Hp} {L : List (Addr × HO)} {Q : VK} {σ : L2.St} {i k : Nat} {p : Addr} {vals : List V} {l : List Cell}
theorem signs_flat (l : List Cell) : (l.map fun x => [x.sign]).flatten = l.map (·.sign) := by
  induction l with
  | nil => rfl
  | cons x l ih => rw [List.map_cons, List.flatten_cons, ih]; rfl
/-- ''.join([cell[0] for cell in row]), inside -/
theorem x_joinIn (W : Hold F L H) (hi : i < σ.length) (hs : SqL K F p vals) (hd : DpAll K F vals (l.map Cell.data)) (hl : l.length ≤ 100000) (kk : ∀ F' H', Same F F' → Hold F' L H' → Q (.str (T (l.map (·.sign)))) H') :
    ∃ a', V.ref p = .ref a' ∧ (∃ xs, SqL K H a' xs) ∧ aLc (Itl K a') (gName i) tYes (tOp (uIx K) (tVar i) (tC (.int 0))) [i] σ H fun y H2 => u_join K (.str ⟨#[]⟩) [y] H2 Q := by
  have hvl := dpAll_len hd
  rw [List.length_map] at hvl
  refine x_ilist' (W.gr.sqL hs) ?_
  refine x_lcOk (F := F) (ItOk.list hs) W (by omega) (fun j v _ => v = .str (T [(l.getD j blankCell).sign])) (fun _ _ _ _ _ h => h) (fun d j F' H' QQ hj s W' kq => ?_) gm_name (fun D ys F' H' s hlen hv W' => ?_)
  · refine ⟨wipe1, ?_⟩
    have hj' : j < l.length := by omega
    have hdj := dpAll_get hd j (by rw [List.length_map]; exact hj')
    rw [getD_map (d := blankCell) hj'] at hdj
    obtain ⟨b, pv, eb, hb, _⟩ := cell_view hdj
    rw [eb]
    refine x_op (x_var (v := .ref b) (by rw [List.getElem?_set_self (by rw [wipe_length]; exact hi)]) (x_c ?_))
    exact l_ixT (W'.gr.sqT ((Gr.of s).sqT hb)) rfl (kq _ F' H' (Same.refl F') W' rfl)
  · have ey : ys = (l.map fun x => [x.sign]).map fun l => .str (T l) := by
      refine List.ext_getElem? fun j => ?_
      by_cases hj : j < l.length
      · have a1 := hv j (by omega)
        have hjy : j < ys.length := by omega
        rw [List.getD_eq_getElem?_getD, List.getElem?_eq_getElem hjy, List.getD_eq_getElem?_getD, List.getElem?_eq_getElem hj] at a1
        rw [List.getElem?_eq_getElem hjy, List.getElem?_map, List.getElem?_map, List.getElem?_eq_getElem hj]
        exact congrArg some a1
      · rw [List.getElem?_eq_none (by omega), List.getElem?_eq_none (by simpa using hj)]
    rw [ey] at W'
    refine l_join 1 (.inl (sq_of W'.get0)) (fun l hl => ?_) (by simp; omega) ?_
    · obtain ⟨x, hx, rfl⟩ := List.mem_map.mp hl
      exact Nat.le_refl _
    · rw [joinL_nil, signs_flat]
      exact kk F' H' s W'.drop
/-- ''.join([cell[0] for cell in row]) -/
theorem x_join0 (W : Hold F L H) (hk : σ[k]? = some (some (.ref p))) (hi : i < σ.length) (hs : SqL K F p vals) (hd : DpAll K F vals (l.map Cell.data)) (hl : l.length ≤ 100000) (kk : ∀ F' H', Same F F' → Hold F' L H' → Q (.str (T (l.map (·.sign)))) H') :
    tM1 (u_join K) (tC (.str ⟨#[]⟩)) (tLc (iList K (tVar k)) (gName i) tYes (tOp (uIx K) (tVar i) (tC (.int 0))) [i]) σ H Q :=
  x_m1 (x_c (x_isstr (x_lc (x_ilist (x_var hk (x_joinIn W hi hs hd hl kk))))))
/-- the same, its end's blanks taken -/
theorem x_join0R {j : Nat} (W : Hold F L H) (hk : σ[k]? = some (some (.ref p))) (hi : i < σ.length) (hs : SqL K F p vals) (hd : DpAll K F vals (l.map Cell.data)) (hl : l.length ≤ 100000) (kk : ∀ F' H', Same F F' → Hold F' L H' → Q (.str (T (lineText l))) H') :
    tBM K "str" u_rstrip (tM1 (u_join K) (tC (.str ⟨#[]⟩)) (tLc (iList K (tVar k)) (gName i) tYes (tOp (uIx K) (tVar i) (tC (.int 0))) [i])) (tCons (tC (.str ⟨#[32]⟩)) tNil) σ H Q := by
  refine x_bm (x_join0 W hk hi hs hd hl fun F' H' s W' => ?_)
  refine x_tystr (x_cons (x_c (x_nil ⟨_, _, rfl, rfl, ?_, by rw [rstrip_eq]; exact kk F' H' s W'⟩)))
  rw [T_len, List.length_map]
  exact szl hl
end
end Ss
/-! ## Pages 0: loops whose turns make a pair; all([..]) -/
namespace Ss
open PySem PySem.Spec PyProof.Rows L2
open Ss in
local macro_rules | `(tactic| walk_at "r") => `(tactic| repeat (first
  | with_reducible refine x_seq ?_ | with_reducible refine x_asg ?_ | with_reducible refine x_var rfl ?_ | with_reducible refine x_c ?_ | with_reducible refine x_op ?_ | with_reducible refine x_name ?_ | with_reducible refine x_gcons ?_ | with_reducible refine x_gnil ?_
  | with_reducible refine x_cons ?_ | with_reducible refine x_nil ?_ | with_reducible refine x_cb ?_ | with_reducible refine x_ifs ?_ | with_reducible refine x_test ?_ | with_reducible refine x_bl ?_
  | with_reducible refine g_addNN ?_ | with_reducible refine g_addNL ?_ | with_reducible refine g_addLN ?_ | with_reducible refine l_addI ?_ | with_reducible refine l_subI ?_ | with_reducible refine g_ltNL ?_ | with_reducible refine l_ltI ?_ | with_reducible refine l_leI ?_ | with_reducible refine l_gtI ?_ | with_reducible refine l_geI ?_ | with_reducible refine l_eqX ?_ | with_reducible refine l_neX ?_ | with_reducible refine g_eqNL ?_ | with_reducible refine l_eqII ?_ | with_reducible refine l_neII ?_ | with_reducible refine l_eq rfl ?_ | with_reducible refine l_ne rfl ?_
  | with_reducible refine x_fld ?_ | with_reducible refine x_ret ?_ | with_reducible refine x_drop ?_ | with_reducible refine x_next ?_ | with_reducible refine x_tup ?_ | with_reducible refine x_lst ?_ | with_reducible refine x_f ?_ | with_reducible refine x_o ?_ | with_reducible refine x_n ?_
  | with_reducible refine x_bm ?_ | with_reducible refine x_bm0 ?_ | with_reducible refine x_m1 ?_ | with_reducible refine x_m0 ?_ | with_reducible refine x_isstr ?_ | with_reducible refine x_tystr ?_ | with_reducible refine x_sl ?_ | with_reducible refine x_part ?_ | with_reducible refine x_part' ?_ | with_reducible refine x_nopart ?_
  | with_reducible refine x_sfld ?_ | with_reducible refine x_if ?_ | with_reducible refine x_isty ?_ | with_reducible refine x_chain ?_ | with_reducible refine x_andV ?_ | with_reducible refine x_orV ?_ | with_reducible refine x_notV ?_ | with_reducible refine x_B ?_ | with_reducible refine x_and ?_ | with_reducible refine x_or ?_ | with_reducible refine x_not ?_ | with_reducible refine x_tru ?_ | with_reducible refine x_yes ?_
  | with_reducible refine x_un ?_ | with_reducible refine x_neg ?_ | with_reducible refine x_par ?_ | with_reducible refine x_par' ?_ | with_reducible refine x_retN ?_ | with_reducible refine x_brk ?_ | with_reducible refine x_cont ?_ | with_reducible refine x_rz ?_
  | with_reducible refine l_leS ?_ | with_reducible refine l_ltS ?_ | with_reducible refine l_inX ?_ | with_reducible refine l_niX ?_ | with_reducible refine l_inS ?_ | with_reducible refine l_niS ?_ | with_reducible refine l_count ?_ | with_reducible refine l_ord ?_ | with_reducible refine l_max ?_ | with_reducible refine l_min ?_ | with_reducible refine l_intI ?_ | with_reducible refine l_intB ?_ | with_reducible refine l_is ?_ | with_reducible refine l_isn ?_
  | with_reducible refine g_modNL (by decide) ?_ | with_reducible refine g_divNL (by decide) (by decide) ?_ | with_reducible refine l_modI (by decide) ?_ | with_reducible refine x_for ?_ | with_reducible refine x_lc ?_ | with_reducible refine x_ilist ?_ | with_reducible refine x_itup ?_ | with_reducible refine x_istr ?_ | with_reducible refine x_istr' ?_ | with_reducible refine x_irng1 ?_ | with_reducible refine x_irng2 ?_
  | (with_reducible refine x_get (by first | assumption | exact Hold.get0 (by assumption) | exact Hold.get1 (by assumption)) (by assumption) (by assumption) (by walk_at "fg") ?_)
  | (with_reducible refine x_ao (by first | assumption | exact Hold.get0 (by assumption) | exact Hold.get1 (by assumption)) (by kernel_rfl) ?_)
  | with_reducible refine x_ienum ?_ | with_reducible refine x_izip ?_ | with_reducible refine x_chain3 ?_
  | (with_reducible refine x_par2 ?_)
  | (with_reducible refine x_par3 ?_) | (with_reducible refine x_par3' ?_)))
/-- what an iterator walks that makes a tuple at each turn -/
structure ItTup (J : It) (F : Hp) (n : Nat) (item : Nat → List V) : Prop where
  go : ∀ i H, Gr F H → i < n → J.go i H
  stop : ∀ H, Gr F H → J.stop n H
  yld : ∀ i H x H', Gr F H → i < n → J.yld i H x H' → ∃ T, x = .ref T ∧ H T = none ∧ H' = upd H T (.tup (item i))
section
variable {K : PySem.W.Frag} {F H : Hp} {L : List (Addr × HO)} {a b : Addr} {xs ys : List V} {n : Nat} {item : Nat → List V} {J : It} {σ σ0 : L2.St} {g : TG} {tb : TS} {te : TE} {nx bk ct : L2.St → Hp → Prop} {rt Q : VK} {vs : List Nat} {QI : It → Hp → Prop}
theorem getD_of {l : List V} {i : Nat} {x : V} (h : l[i]? = some x) : l.getD i .non = x := by rw [List.getD_eq_getElem?_getD, h]; rfl
theorem ItTup.mono {F' : Hp} (o : ItTup J F n item) (g : Gr F F') : ItTup J F' n item := ⟨fun i H h => o.go i H (g.trans h), fun H h => o.stop H (g.trans h), fun i H x H' h => o.yld i H x H' (g.trans h)⟩
theorem ItTup.enum (h : SqL K F a xs) : ItTup (Ite K a) F xs.length (fun i => [.int (i : Nat), xs.getD i .non]) where
  go := fun i H g hi => ⟨xs, xs[i], g.sqL h, by simp [hi]⟩
  stop := fun H g => ⟨xs, g.sqL h, Nat.le_refl _⟩
  yld := fun i H x H' g hi y => by
    obtain ⟨T, z, e1, e2, e3, e4⟩ := y
    exact ⟨T, e1, e2, by rw [e3, getD_of (e4 xs (g.sqL h))]⟩
theorem ItTup.zipT (h1 : SqT K F a xs) (h2 : SqT K F b ys) (hl : xs.length = ys.length) : ItTup (RZ.ItzT K a b) F xs.length (fun i => [xs.getD i .non, ys.getD i .non]) where
  go := fun i H g hi => ⟨xs, ys, xs[i], ys[i]'(by omega), g.sqT h1, g.sqT h2, by simp [hi], by simp [show i < ys.length by omega]⟩
  stop := fun H g => ⟨xs, ys, g.sqT h1, g.sqT h2, .inl (Nat.le_refl _)⟩
  yld := fun i H x H' g hi y => by
    obtain ⟨T, z1, z2, e1, e2, e3, e4, e5⟩ := y
    exact ⟨T, e1, e2, by rw [e3, getD_of (e4 xs (g.sqT h1)), getD_of (e5 ys (g.sqT h2))]⟩
theorem x_ienum {tr : TA} (h : tr σ H fun vs H1 => ∃ a xs, vs = [.ref a] ∧ SqL K H1 a xs ∧ QI (Ite K a) H1) : iEnum K tr σ H QI := h
theorem x_ienum' {Pa : Addr → Prop} (hs : SqL K H a xs) (h : Pa a) : ∃ a' xs, [V.ref a] = [.ref a'] ∧ SqL K H a' xs ∧ Pa a' := ⟨a, xs, rfl, hs, h⟩
theorem x_izip {tr : TA} (h : tr σ H fun vs H1 => ∃ a b xs ys, vs = [.ref a, .ref b] ∧ ((SqL K H1 a xs ∧ SqL K H1 b ys ∧ QI (Itz K a b) H1) ∨ (SqT K H1 a xs ∧ SqT K H1 b ys ∧ QI (RZ.ItzT K a b) H1))) : RZ.iZipA K tr σ H QI := h
theorem x_izipT (h1 : SqT K H a xs) (h2 : SqT K H b ys) (h : QI (RZ.ItzT K a b) H) : ∃ a' b' xs ys, [V.ref a, V.ref b] = [.ref a', .ref b'] ∧ ((SqL K H a' xs ∧ SqL K H b' ys ∧ QI (Itz K a' b') H) ∨ (SqT K H a' xs ∧ SqT K H b' ys ∧ QI (RZ.ItzT K a' b') H)) := ⟨a, b, xs, ys, rfl, .inr ⟨h1, h2, h⟩⟩
/-- a for over such -/
theorem x_forT (ok : ItTup J F n item) (Pv : Nat → L2.St → Hp → Prop) (hg : ∀ i σ H, i ≤ n → Pv i σ H → Gr F H) (h0 : Pv 0 σ H)
    (hs : ∀ i σ H T, i < n → Pv i σ H → H T = none → g (.ref T) σ (upd H T (.tup (item i))) fun σ2 H2 => tb ⟨Pv (i + 1), rt, nx, Pv (i + 1)⟩ σ2 H2) (hd : ∀ σ H, Pv n σ H → nx σ H) : aFor J g tb ⟨nx, rt, bk, ct⟩ σ H := by
  refine ⟨fun i m σ H => m = n - i ∧ i ≤ n ∧ Pv i σ H, ⟨n, by simp, Nat.zero_le _, h0⟩, ?_⟩
  rintro i m σ H ⟨rfl, hi, p⟩
  have q := hg i σ H hi p
  by_cases hlt : i < n
  · refine .inr ⟨ok.go i H q hlt, Pv (i + 1), fun σ' H' p' => ⟨n - (i + 1), by omega, rfl, hlt, p'⟩, fun x H' y => ?_⟩
    obtain ⟨T, rfl, hT, rfl⟩ := ok.yld i H x H' q hlt y
    exact hs i σ H T hlt p hT
  · have e : i = n := by omega
    subst e
    exact .inl ⟨ok.stop H q, hd σ H p⟩
/-- a comprehension over such, without a test -/
theorem x_lcZ (ok : ItTup J F n item) (W : Hold F L H) (hn : n ≤ 100000) (val : Nat → V → Hp → Prop) (mono : ∀ i v F F', Gr F F' → val i v F → val i v F')
    (step : ∀ (d : Addr × HO) i T F' H' (QQ : VK), i < n → Same F F' → F' T = some (.tup (item i)) → Hold F' (L ++ [d]) H' → (∀ y F4 H4, Same F' F4 → Hold F4 (L ++ [d]) H4 → val i y F4 → QQ y H4) → g (.ref T) (wipe σ vs) H' fun σ2 H2 => wipe σ2 vs = wipe σ vs ∧ te σ2 H2 QQ)
    (gm : ∀ x σ H (Q Q' : L2.St → Hp → Prop), (∀ σ' H', Q σ' H' → Q' σ' H') → g x σ H Q → g x σ H Q')
    (done : ∀ (D : Addr) (ys : List V) (F' H' : Hp), Same F F' → ys.length = n → (∀ i, i < n → val i (ys.getD i .non) F') → Hold F' ((D, .lst ys) :: L) H' → Q (.ref D) H') : aLc J g tYes te vs σ H Q := by
  intro D hD
  refine ⟨fun i m H' => m = n - i ∧ i ≤ n ∧ ∃ ys F', Same F F' ∧ ys.length = i ∧ (∀ j, j < i → val j (ys.getD j .non) F') ∧ Hold F' ((D, .lst ys) :: L) H', ⟨n, by simp, Nat.zero_le _, [], F, Same.refl F, rfl, fun j h => absurd h (Nat.not_lt_zero _), W.make hD⟩, ?_⟩
  rintro i m H1 ⟨rfl, hi, ys, F1, s1, hl, hv, W1⟩
  have q : Gr F H1 := (Gr.of s1).trans W1.gr
  by_cases hlt : i < n
  · refine .inr ⟨ok.go i H1 q hlt, fun H' => ∃ ys F', Same F F' ∧ ys.length = i + 1 ∧ (∀ j, j < i + 1 → val j (ys.getD j .non) F') ∧ Hold F' ((D, .lst ys) :: L) H', fun H' p' => ⟨n - (i + 1), by omega, rfl, hlt, p'⟩, fun x H' y => ?_⟩
    obtain ⟨T, rfl, hT, rfl⟩ := ok.yld i H1 x H' q hlt y
    have W0 := W1.alloc (o := .tup (item i)) hT
    have nF : F1 T = none := W1.fresh hT
    have s01 : Same F1 (upd F1 T (.tup (item i))) := same_new nF
    have hT1 : (upd F1 T (.tup (item i))) T = some (.tup (item i)) := upd_same
    generalize upd F1 T (.tup (item i)) = F2 at W0 s01 hT1
    have W2 : Hold F2 (L ++ [(D, .lst ys)]) (upd H1 T (.tup (item i))) := W0.perm (List.perm_append_singleton _ _).symm
    refine gm _ _ _ _ _ (fun σ2 H2 z => ⟨z.1, ?_⟩) (step (D, .lst ys) i T F2 _ (fun y H4 => ∃ acc, H4 D = some (.lst acc) ∧ acc.length < sizeLine ∧ (∃ ys F', Same F F' ∧ ys.length = i + 1 ∧ (∀ j, j < i + 1 → val j (ys.getD j .non) F') ∧ Hold F' ((D, .lst ys) :: L) (upd H4 D (.lst (acc ++ [y]))))) hlt (s1.trans s01) hT1 W2 ?_)
    · exact x_yes (wT rfl z.2)
    · intro v F4 H4 s4 W4 hv4
      have W5 : Hold F4 ((D, .lst ys) :: L) H4 := W4.perm (List.perm_append_singleton _ _)
      refine ⟨ys, W5.get0, szlt (by omega), ys ++ [v], F4, (s1.trans s01).trans s4, by rw [List.length_append, hl]; rfl, fun j hj => ?_, W5.put0⟩
      by_cases hji : j < i
      · have e : (ys ++ [v]).getD j .non = ys.getD j .non := by rw [List.getD_eq_getElem?_getD, List.getElem?_append_left (by omega), List.getD_eq_getElem?_getD]
        rw [e]
        exact mono j _ F1 F4 (Gr.of (s01.trans s4)) (hv j hji)
      · have e : j = ys.length := by omega
        have e2 : (ys ++ [v]).getD j .non = v := by rw [e, List.getD_eq_getElem?_getD]; simp
        rw [e2, show j = i by omega]
        exact hv4
  · have e : i = n := by omega
    subst e
    exact .inl ⟨ok.stop H1 q, done D ys F1 H1 s1 hl hv W1⟩
theorem gm_tup {k : Nat} {ts : TGs} (h : ∀ xs σ H (Q Q' : L2.St → Hp → Prop), (∀ σ' H', Q σ' H' → Q' σ' H') → ts xs σ H Q → ts xs σ H Q') : ∀ x σ H (Q Q' : L2.St → Hp → Prop), (∀ σ' H', Q σ' H' → Q' σ' H') → gTup K k ts x σ H Q → gTup K k ts x σ H Q' := fun x σ H Q Q' hq ⟨a, xs, h1, h2, h3, h4⟩ => ⟨a, xs, h1, h2, h3, h _ _ _ _ _ hq h4⟩
theorem gm_two {i j : Nat} : ∀ xs σ H (Q Q' : L2.St → Hp → Prop), (∀ σ' H', Q σ' H' → Q' σ' H') → gCons (gName i) (gCons (gName j) gNil) xs σ H Q → gCons (gName i) (gCons (gName j) gNil) xs σ H Q' := fun xs σ H Q Q' hq ⟨v, r, e, v2, r2, e2, e3, h⟩ => ⟨v, r, e, v2, r2, e2, e3, hq _ _ h⟩
theorem bls_of {n : Nat} {p : Nat → Bool} : ∀ {ys : List V}, ys.length = n → (∀ i, i < n → ys.getD i .non = .bl (p i)) → ys = ((List.range n).map p).map V.bl := fun {ys} hl h => by
  refine List.ext_getElem? fun j => ?_
  by_cases hj : j < n
  · have a1 := h j hj
    rw [List.getD_eq_getElem?_getD, List.getElem?_eq_getElem (by omega)] at a1
    rw [List.getElem?_eq_getElem (by omega), List.getElem?_map, List.getElem?_map, List.getElem?_range hj]
    exact congrArg some a1
  · rw [List.getElem?_eq_none (by omega), List.getElem?_eq_none (by simp; omega)]
theorem all_range {n : Nat} {p : Nat → Bool} : ((List.range n).map p).all id = (List.range n).all p := by rw [List.all_map]; rfl
theorem all_getD {α : Type} {p : α → Bool} {d : α} (l : List α) : (List.range l.length).all (fun i => p (l.getD i d)) = l.all p := by
  rw [Bool.eq_iff_iff, List.all_eq_true, List.all_eq_true]
  refine ⟨fun h x hx => ?_, fun h i hi => ?_⟩
  · obtain ⟨i, hi, rfl⟩ := List.getElem_of_mem hx
    have z := h i (List.mem_range.mpr hi)
    rw [List.getD_eq_getElem?_getD, List.getElem?_eq_getElem hi] at z; exact z
  · exact h _ (getD_mem (List.mem_range.mp hi))
/-- all([te for g in J]) -/
theorem x_allc {item : Nat → V} {p : Nat → Bool} (ok : ItOk J F n item) (W : Hold F L H) (hn : n ≤ 100000)
    (step : ∀ (d : Addr × HO) i F' H' (QQ : VK), i < n → Same F F' → Hold F' (L ++ [d]) H' → (∀ F4 H4, Same F' F4 → Hold F4 (L ++ [d]) H4 → QQ (.bl (p i)) H4) → g (item i) (wipe σ vs) H' fun σ2 H2 => wipe σ2 vs = wipe σ vs ∧ te σ2 H2 QQ)
    (gm : ∀ x σ H (Q Q' : L2.St → Hp → Prop), (∀ σ' H', Q σ' H' → Q' σ' H') → g x σ H Q → g x σ H Q')
    (dn : ∀ F' H', Same F F' → Hold F' L H' → Q (.bl ((List.range n).all p)) H') : aLc J g tYes te vs σ H (fun x H1 => tNil σ0 H1 fun xs H2 => rAll K (x :: xs) H2 Q) := by
  refine x_lcOk ok W hn (fun i v _ => v = .bl (p i)) (fun _ _ _ _ _ h => h) (fun d i F' H' QQ hi s W' kq => ?_) gm (fun D ys F' H' s hl hv W' => ?_)
  · exact step d i F' H' QQ hi s W' fun F4 H4 s4 W4 => kq _ F4 H4 s4 W4 rfl
  · rw [bls_of hl hv] at W'
    exact ⟨D, _, rfl, sq_of W'.get0, by rw [all_range]; exact dn F' H' s W'.drop⟩
theorem x_allz {p : Nat → Bool} (ok : ItTup J F n item) (W : Hold F L H) (hn : n ≤ 100000)
    (step : ∀ (d : Addr × HO) i T F' H' (QQ : VK), i < n → Same F F' → F' T = some (.tup (item i)) → Hold F' (L ++ [d]) H' → (∀ F4 H4, Same F' F4 → Hold F4 (L ++ [d]) H4 → QQ (.bl (p i)) H4) → g (.ref T) (wipe σ vs) H' fun σ2 H2 => wipe σ2 vs = wipe σ vs ∧ te σ2 H2 QQ)
    (gm : ∀ x σ H (Q Q' : L2.St → Hp → Prop), (∀ σ' H', Q σ' H' → Q' σ' H') → g x σ H Q → g x σ H Q')
    (dn : ∀ F' H', Same F F' → Hold F' L H' → Q (.bl ((List.range n).all p)) H') : aLc J g tYes te vs σ H (fun x H1 => tNil σ0 H1 fun xs H2 => rAll K (x :: xs) H2 Q) := by
  refine x_lcZ ok W hn (fun i v _ => v = .bl (p i)) (fun _ _ _ _ _ h => h) (fun d i T F' H' QQ hi s hT W' kq => ?_) gm (fun D ys F' H' s hl hv W' => ?_)
  · exact step d i T F' H' QQ hi s hT W' fun F4 H4 s4 W4 => kq _ F4 H4 s4 W4 rfl
  · rw [bls_of hl hv] at W'
    exact ⟨D, _, rfl, sq_of W'.get0, by rw [all_range]; exact dn F' H' s W'.drop⟩
end
end Ss
/-! ## Tapes: pages, cursors, words -/
namespace Ss
open PySem PySem.Spec PyProof.Rows L2
open Ss in
local macro_rules | `(tactic| walk_at "fg") => `(tactic| first | with_reducible exact fsTape_g0 | with_reducible exact fsTape_g1 | with_reducible exact fsTape_g2 | with_reducible exact fsScreen_g0 | with_reducible exact fsScreen_g1 | with_reducible exact fsScreen_g2 | with_reducible exact fsScreen_g3 | with_reducible exact fsScreen_g4 | with_reducible exact fsScreen_g5 | with_reducible exact fsScreen_g6 | with_reducible exact fsScreen_g7 | with_reducible exact fsScreen_g8 | with_reducible exact fsScreen_g9 | with_reducible exact fsScreen_g10 | with_reducible exact fsScreen_g11 | with_reducible exact fsScreen_g12 | with_reducible exact fsScreen_g13)
open Ss in
local macro_rules | `(tactic| walk_at "r") => `(tactic| repeat (first
  | with_reducible refine x_seq ?_ | with_reducible refine x_asg ?_ | with_reducible refine x_var rfl ?_ | with_reducible refine x_c ?_ | with_reducible refine x_op ?_ | with_reducible refine x_name ?_ | with_reducible refine x_gcons ?_ | with_reducible refine x_gnil ?_
  | with_reducible refine x_cons ?_ | with_reducible refine x_nil ?_ | with_reducible refine x_cb ?_ | with_reducible refine x_ifs ?_ | with_reducible refine x_test ?_ | with_reducible refine x_bl ?_
  | with_reducible refine g_addNN ?_ | with_reducible refine g_addNL ?_ | with_reducible refine g_addLN ?_ | with_reducible refine l_addI ?_ | with_reducible refine l_subI ?_ | with_reducible refine g_ltNL ?_ | with_reducible refine l_ltI ?_ | with_reducible refine l_leI ?_ | with_reducible refine l_gtI ?_ | with_reducible refine l_geI ?_ | with_reducible refine l_eqX ?_ | with_reducible refine l_neX ?_ | with_reducible refine g_eqNL ?_ | with_reducible refine l_eqII ?_ | with_reducible refine l_neII ?_ | with_reducible refine l_eq rfl ?_ | with_reducible refine l_ne rfl ?_
  | with_reducible refine x_fld ?_ | with_reducible refine x_ret ?_ | with_reducible refine x_drop ?_ | with_reducible refine x_next ?_ | with_reducible refine x_tup ?_ | with_reducible refine x_lst ?_ | with_reducible refine x_f ?_ | with_reducible refine x_o ?_ | with_reducible refine x_n ?_
  | with_reducible refine x_bm ?_ | with_reducible refine x_bm0 ?_ | with_reducible refine x_m1 ?_ | with_reducible refine x_m0 ?_ | with_reducible refine x_isstr ?_ | with_reducible refine x_tystr ?_ | with_reducible refine x_sl ?_ | with_reducible refine x_part ?_ | with_reducible refine x_part' ?_ | with_reducible refine x_nopart ?_
  | with_reducible refine x_sfld ?_ | with_reducible refine x_if ?_ | with_reducible refine x_isty ?_ | with_reducible refine x_chain ?_ | with_reducible refine x_andV ?_ | with_reducible refine x_orV ?_ | with_reducible refine x_notV ?_ | with_reducible refine x_B ?_ | with_reducible refine x_and ?_ | with_reducible refine x_or ?_ | with_reducible refine x_not ?_ | with_reducible refine x_tru ?_ | with_reducible refine x_yes ?_
  | with_reducible refine x_un ?_ | with_reducible refine x_neg ?_ | with_reducible refine x_par ?_ | with_reducible refine x_par' ?_ | with_reducible refine x_retN ?_ | with_reducible refine x_brk ?_ | with_reducible refine x_cont ?_ | with_reducible refine x_rz ?_
  | with_reducible refine l_leS ?_ | with_reducible refine l_ltS ?_ | with_reducible refine l_inX ?_ | with_reducible refine l_niX ?_ | with_reducible refine l_inS ?_ | with_reducible refine l_niS ?_ | with_reducible refine l_count ?_ | with_reducible refine l_ord ?_ | with_reducible refine l_max ?_ | with_reducible refine l_min ?_ | with_reducible refine l_intI ?_ | with_reducible refine l_intB ?_ | with_reducible refine l_is ?_ | with_reducible refine l_isn ?_
  | with_reducible refine g_modNL (by decide) ?_ | with_reducible refine g_divNL (by decide) (by decide) ?_ | with_reducible refine l_modI (by decide) ?_ | with_reducible refine x_for ?_ | with_reducible refine x_lc ?_ | with_reducible refine x_ilist ?_ | with_reducible refine x_itup ?_ | with_reducible refine x_istr ?_ | with_reducible refine x_istr' ?_ | with_reducible refine x_irng1 ?_ | with_reducible refine x_irng2 ?_
  | (with_reducible refine x_get (by first | assumption | exact Hold.get0 (by assumption) | exact Hold.get1 (by assumption)) (by assumption) (by assumption) (by walk_at "fg") ?_)
  | (with_reducible refine x_ao (by first | assumption | exact Hold.get0 (by assumption) | exact Hold.get1 (by assumption)) (by kernel_rfl) ?_)
  | with_reducible refine x_ienum ?_ | with_reducible refine x_izip ?_ | with_reducible refine x_chain3 ?_
  | (with_reducible refine x_par2 ?_)
  | (with_reducible refine x_par3 ?_) | (with_reducible refine x_par3' ?_)))
def sp_Tape_page_at (c : Ctx) : Sp := fun vs H Q E => ∃ (a : Addr) (C : TapeC) (S : Tape) (x : V) (F : Hp) (L : List (Addr × HO)), vs = [.ref a, x] ∧ CntArg c F x ∧ TapeAt c F C S ∧ Hold F (tapeL c a C L) H ∧
  (cntOk x 0 (S.length : Nat) = false → TapeTell a c C F L (E (.ref c.cBadTick) none)) ∧ (∀ n : Nat, x = .int (n : Nat) → n ≤ S.length → ∀ v F' H', Same F F' → Dp c.K F' v (S.screenAt (n : Nat)).pageD → Hold F' (tapeL c a C L) H' → Q v H')
def sp_Tape_cursor_at (c : Ctx) : Sp := fun vs H Q E => ∃ (a : Addr) (C : TapeC) (S : Tape) (x : V) (F : Hp) (L : List (Addr × HO)), vs = [.ref a, x] ∧ CntArg c F x ∧ TapeAt c F C S ∧ Hold F (tapeL c a C L) H ∧
  (cntOk x 0 (S.length : Nat) = false → TapeTell a c C F L (E (.ref c.cBadTick) none)) ∧ (∀ n : Nat, x = .int (n : Nat) → n ≤ S.length → ∀ v F' H', Same F F' → Dp c.K F' v (S.screenAt (n : Nat)).cursorD → Hold F' (tapeL c a C L) H' → Q v H')
def okWord : V → Bool
  | .str z => decide (1 ≤ z.length) && decide (z.length ≤ 20) && z.cps.toList.all fun n => !decide (n = 10) && isSign n
  | _ => false
def findRow (w : List Nat) : List PRow → Nat → Option (Nat × Int)
  | [], _ => none
  | p :: ps, i => if 0 ≤ Txt.find (T (p.cells.map (·.sign))) (T w) then some (i, Txt.find (T (p.cells.map (·.sign))) (T w)) else findRow w ps (i + 1)
noncomputable def Tape.firstIn (S : Tape) (w : List Nat) : List Rec → Option (Nat × Nat × Int)
  | [] => none
  | r :: rs => match findRow w (S.screenAt (r.1 : Nat)).rows 0 with
    | some q => some (r.1, q.1, q.2)
    | none => S.firstIn w rs
noncomputable def Tape.firstWith (S : Tape) (w : List Nat) : Option (Nat × Nat × Int) := S.firstIn w ((0, []) :: S.rows)
def firstD : Option (Nat × Nat × Int) → PyData
  | none => .none
  | some (t, i, k) => .tuple [.int (t : Nat), .int (i : Nat), .int k]
def sp_Tape_first_with (c : Ctx) : Sp := fun vs H Q E => ∃ (a : Addr) (C : TapeC) (S : Tape) (x : V) (F : Hp) (L : List (Addr × HO)), vs = [.ref a, x] ∧ TextArg c F x ∧ TapeAt c F C S ∧ Hold F (tapeL c a C L) H ∧
  (okWord x = false → TapeTell a c C F L (E (.ref c.cBadText) none)) ∧ (∀ l, x = .str (T l) → okWord x = true → ∀ v F' H', Same F F' → Dp c.K F' v (firstD (S.firstWith l)) → Hold F' (tapeL c a C L) H' → Q v H')
def t_Tape_page_at (c : Ctx) (E : XK) : TS :=
  (tSeq (tDrop (tO c.cTape "need_tick" (sp_Tape_need_tick c) E (tVar 0) (tCons (tVar 1) tNil)))
  (tRet (tO c.cScreen "page" (sp_Screen_page c) E0 (tO c.cTape "screen_behind" (sp_Tape_screen_behind c) E (tVar 0) (tCons (tVar 1) tNil)) tNil)))
abbrev N_Tape_page_at : List Str := ["self", "tick"]

def t_Tape_cursor_at (c : Ctx) (E : XK) : TS :=
  (tSeq (tDrop (tO c.cTape "need_tick" (sp_Tape_need_tick c) E (tVar 0) (tCons (tVar 1) tNil)))
  (tRet (tO c.cScreen "cursor" (sp_Screen_cursor c) E0 (tO c.cTape "screen_behind" (sp_Tape_screen_behind c) E (tVar 0) (tCons (tVar 1) tNil)) tNil)))
abbrev N_Tape_cursor_at : List Str := ["self", "tick"]

def t_Tape_first_with (c : Ctx) (E : XK) : TS :=
  (tSeq (tIfS (tOr (tNot (tB (tIsTy c.K (tVar 1) "str"))) (tNot (tTest (tChain uLe uLe (tC (.int 1)) (tCB (uLen c.K) (tCons (tVar 1) tNil)) (tC (v_MOST_WORD c)))))) (tRz c.cBadText E) tNext)
  (tSeq (tIfS (tNot (tB (tCB (rAll c.K) (tCons (tLc (iStr (tVar 1)) (gName 2) tYes (tAndV (tOp (uNe c.K) (tVar 2) (tC (v_GAP c))) (tF (sp_is_sign c) E0 (tCons (tVar 2) tNil))) [2]) tNil)))) (tRz c.cBadText E) tNext)
  (tSeq (tFor (iList c.K (tOp (uAdd c.K) (tLst (tCons (tTup (tCons (tC (.int 0)) (tCons (tC (.str ⟨#[]⟩)) tNil))) tNil)) (tFld c.K (tVar 0) "rows"))) (gTup c.K 2 (gCons (gName 3) (gCons (gName 4) gNil))) (tFor (iEnum c.K (tCons (tO c.cScreen "page" (sp_Screen_page c) E0 (tO c.cTape "screen_behind" (sp_Tape_screen_behind c) E (tVar 0) (tCons (tVar 3) tNil)) tNil) tNil)) (gTup c.K 2 (gCons (gName 5) (gCons (gName 6) gNil))) (tSeq (tAsg (tM1 u_find (tM1 (u_join c.K) (tC (.str ⟨#[]⟩)) (tLc (iList c.K (tVar 6)) (gName 8) tYes (tOp (uIx c.K) (tVar 8) (tC (.int 0))) [8])) (tVar 1)) (gName 7))
  (tIfS (tTest (tOp uGe (tVar 7) (tC (.int 0)))) (tRet (tTup (tCons (tVar 3) (tCons (tVar 5) (tCons (tVar 7) tNil))))) tNext))))
  (tRet (tC .non)))))
abbrev N_Tape_first_with : List Str := ["self", "word", "sign", "tick", "text", "row", "cells", "column", "cell"]

section
variable {c : Ctx}
theorem rd_Tape_page_at (R : FTape c) : RD N_Tape_page_at (t_Tape_page_at c) (sp_Tape_page_at c) := by
  have cl := R.cl
  rintro vs H Q E ⟨a, C, S, x, F, L, rfl, cx, A, W, k1, k2⟩
  unfold t_Tape_page_at
  walk_at "r"
  refine ⟨a, C, S, x, F, L, rfl, cx, A, W, fun ok F1 H1 e1 W1 => ?_, k1⟩
  obtain ⟨n, rfl, _, hn⟩ := cntOk_get (lo := 0) ok
  walk_at "r"
  refine ⟨a, C, S, n, F1, L, rfl, A.gr (Gr.of e1), W1, fun s C2 F2 H2 e2 A2 W2 => ?_⟩
  walk_at "r"
  refine sp_page_tell A2 W2 fun v F3 H3 e3 h3 W3 => ?_
  obtain ⟨F4, e4, W4⟩ := scrL_gone W3
  exact k2 n rfl (by omega) v F4 H3 (e1.trans (e2.trans (e3.trans e4))) ((Gr.of e4).dp h3) W4
theorem rd_Tape_cursor_at (R : FTape c) : RD N_Tape_cursor_at (t_Tape_cursor_at c) (sp_Tape_cursor_at c) := by
  have cl := R.cl
  rintro vs H Q E ⟨a, C, S, x, F, L, rfl, cx, A, W, k1, k2⟩
  unfold t_Tape_cursor_at
  walk_at "r"
  refine ⟨a, C, S, x, F, L, rfl, cx, A, W, fun ok F1 H1 e1 W1 => ?_, k1⟩
  obtain ⟨n, rfl, _, hn⟩ := cntOk_get (lo := 0) ok
  walk_at "r"
  refine ⟨a, C, S, n, F1, L, rfl, A.gr (Gr.of e1), W1, fun s C2 F2 H2 e2 A2 W2 => ?_⟩
  walk_at "r"
  refine ⟨s, C2, _, F2, _, rfl, A2, W2, fun v F3 H3 e3 h3 W3 => ?_⟩
  obtain ⟨F4, e4, W4⟩ := scrL_gone W3
  exact k2 n rfl (by omega) v F4 H3 (e1.trans (e2.trans (e3.trans e4))) ((Gr.of e4).dp h3) W4
theorem okWord_T (l : List Nat) : okWord (.str (T l)) = (decide (1 ≤ l.length) && decide (l.length ≤ 20) && l.all fun n => !decide (n = 10) && isSign n) := by
  show (decide (1 ≤ (T l).length) && decide ((T l).length ≤ 20) && (T l).cps.toList.all fun n => !decide (n = 10) && isSign n) = _
  rw [T_len, T_list]
theorem rd_Tape_first_with (R : FTape c) : RD N_Tape_first_with (t_Tape_first_with c) (sp_Tape_first_with c) := by
  have cl := R.cl
  have n1 := R.n_rows
  rintro vs H Q E ⟨a, C, S, x, F, L, rfl, tx, A, W, k1, k2⟩
  unfold t_Tape_first_with
  walk_at "r"
  rcases tx with ⟨l, rfl, hl⟩ | ⟨⟨t, ht, hk⟩, hx⟩
  case inr =>
    refine l_isTy (tyX_gr W.gr ht) hk ?_
    have e : okWord x = false := by
      cases x with
      | str z => exact absurd rfl (hx z)
      | _ => rfl
    walk_at "r"
    refine wT rfl ?_
    walk_at "r"
    refine wT rfl ?_
    walk_at "r"
    exact k1 e F H (Same.refl F) W
  rw [okWord_T] at k1 k2
  refine l_isTy (ty_str _) (by decide +kernel : kitB "str" "str" = some true) ?_
  walk_at "r"
  refine wF rfl ?_
  walk_at "r"
  refine l_lenX hl ?_
  walk_at "r"
  by_cases h1 : 1 ≤ l.length
  case neg =>
    refine wF (decide_eq_false (by omega)) ?_
    walk_at "r"
    refine wT rfl ?_
    walk_at "r"
    exact k1 (by rw [decide_eq_false h1]; rfl) F H (Same.refl F) W
  refine wT (decide_eq_true (by omega)) ?_
  walk_at "r"
  by_cases h2 : l.length ≤ 20
  case neg =>
    refine wT (by rw [decide_eq_false (show ¬ ((l.length : Int) ≤ 20) by omega)]; rfl) ?_
    walk_at "r"
    exact k1 (by rw [decide_eq_false h2, Bool.and_false]; rfl) F H (Same.refl F) W
  refine wF (by rw [decide_eq_true (show (l.length : Int) ≤ 20 by omega)]; rfl) ?_
  rw [decide_eq_true h1, decide_eq_true h2, Bool.true_and, Bool.true_and] at k1 k2
  walk_at "r"
  refine x_allc (F := F) (p := fun i => !decide (l.getD i 0 = 10) && isSign (l.getD i 0)) (ItOk.str l) W (by omega) (fun d i F' H' QQ hi s W' kq => ?_) gm_name (fun F1 H1 e1 W1 => ?_)
  · refine ⟨wipe1, ?_⟩
    generalize l.getD i 0 = n at kq ⊢
    walk_at "r"
    by_cases h10 : n = 10
    · subst h10
      refine wF rfl ?_
      exact kq F' H' (Same.refl F') W'
    · refine wT (by simp [h10]) ?_
      walk_at "r"
      rw [decide_eq_false h10] at kq
      exact ⟨n, rfl, kq F' H' (Same.refl F') W'⟩
  rw [all_getD (d := 0) (p := fun n => !decide (n = 10) && isSign n)]
  walk_at "r"
  cases hall : l.all fun n => !decide (n = 10) && isSign n with
  | false =>
    refine wT rfl ?_
    walk_at "r"
    exact k1 hall F1 H1 e1 W1
  | true =>
  refine wF rfl ?_
  have k3 := k2 l rfl hall
  clear k1 k2
  have A1 := A.gr (Gr.of e1)
  walk_at "r"
  refine n_tupF W1 (sz rfl) fun q F2 H2 e2 h2' W2 => ?_
  walk_at "r"
  refine n_lstF W2 (sz rfl) fun q2 F3 H3 e3 h3 W3 => ?_
  walk_at "r"
  have hln := dpAll_len A1.rows
  rw [List.length_map] at hln
  have hn60 := A.wf.n
  refine n_addF W3 (W3.old _ _ h3) W3.get1 (szl (by simp; omega)) fun rr F4 H4 e4 h4 W4 => ?_
  have s14 : Same F1 F4 := e2.trans (e3.trans e4)
  have A4 := A1.gr (Gr.of s14)
  have hrs : DpAll c.K F4 ([.ref q] ++ C.ys) (((0, []) :: S.rows).map recD) := .cons (.tup (st_of ((e3.trans e4) _ _ h2')) (.cons (.int _) (.cons (.str _) .nil))) A4.rows
  have hfw : S.firstWith l = S.firstIn l ((0, []) :: S.rows) := rfl
  have hrl : ([.ref q] ++ C.ys : List V).length = ((0, []) :: S.rows).length := by rw [dpAll_len hrs, List.length_map]
  generalize ([.ref q] ++ C.ys : List V) = vs at h4 hrs hrl
  generalize (0, []) :: S.rows = rs at hrs hfw hrl
  refine x_ilist' (sq_of (W4.old _ _ h4)) ?_
  refine x_forOk (F := F4) (ItOk.list (sq_of h4)) (fun i σ H' => ∃ z2 z3 z4 z5 z6 z7 z8 F', σ = [some (.ref a), some (.str (T l)), z2, z3, z4, z5, z6, z7, z8] ∧ Same F4 F' ∧ S.firstWith l = S.firstIn l (rs.drop i) ∧ Hold F' (tapeL c a C L) H')
    (fun i σ H' _ ⟨_, _, _, _, _, _, _, F', _, s, _, W'⟩ => (Gr.of s).trans W'.gr) ⟨_, _, _, _, _, _, _, F4, rfl, Same.refl F4, hfw, W4⟩ ?_ ?_
  · rintro i σ H5 hi ⟨z2, z3, z4, z5, z6, z7, z8, F5, rfl, s5, hf, W5⟩
    have hi' : i < rs.length := by rw [← hrl]; exact hi
    have hv := (Gr.of s5).dp (dpAll_get hrs i (by rw [List.length_map]; exact hi'))
    rw [getD_map (d := ((0, []) : Rec)) hi'] at hv
    have er : rs.drop i = rs.getD i (0, []) :: rs.drop (i + 1) := by
      rw [List.getD_eq_getElem?_getD, List.getElem?_eq_getElem hi']
      exact List.drop_eq_getElem_cons hi'
    generalize rs.getD i (0, []) = r at hv er
    obtain ⟨p, ws, ev, hp, ha⟩ := tup_view hv
    rw [ev]
    cases ha with | cons g1 ha => cases ha with | cons g2 ha =>
    cases ha
    cases g1
    cases g2
    refine x_gtup (W5.gr.sqT hp) rfl ?_
    walk_at "r"
    have A5 := A4.gr (Gr.of s5)
    refine ⟨a, C, S, (r.1 : Nat), F5, L, rfl, A5, W5, fun s C2 F6 H6 e6 A6 W6 => ?_⟩
    generalize hS : S.screenAt (r.1 : Nat) = Sc at A6 W6
    walk_at "r"
    refine sp_page_tell A6 W6 fun v F7 H7 e7 h7 W7 => ?_
    obtain ⟨F8, e8, W8⟩ := scrL_gone W7
    obtain ⟨pp, pvs, rfl, hps, hpa⟩ := lst_view ((Gr.of e8).dp h7)
    have hpl := dpAll_len hpa
    rw [List.length_map] at hpl
    walk_at "r"
    refine x_ienum' (W8.gr.sqL hps) ?_
    refine x_forT (F := F8) (ItTup.enum hps) (fun j σ H' => ∃ z2 z5 z6 z7 z8 F', σ = [some (.ref a), some (.str (T l)), z2, some (.int (r.1 : Nat)), some (.str (T r.2)), z5, z6, z7, z8] ∧ Same F8 F' ∧ findRow l Sc.rows 0 = findRow l (Sc.rows.drop j) j ∧ Hold F' (tapeL c a C L) H')
      (fun i σ H' _ ⟨_, _, _, _, _, F', _, s, _, W'⟩ => (Gr.of s).trans W'.gr) ⟨_, _, _, _, _, F8, rfl, Same.refl F8, rfl, W8⟩ ?_ ?_
    · rintro j σ H9 Tj hj ⟨z2, z5, z6, z7, z8, F9, rfl, s9, hfr, W9⟩ nT
      have W10 := W9.alloc (o := .tup [.int (j : Nat), pvs.getD j .non]) nT
      have s10 : Same F9 (upd F9 Tj (.tup [.int (j : Nat), pvs.getD j .non])) := same_new (W9.fresh nT)
      have hT1 : (upd F9 Tj (.tup [.int (j : Nat), pvs.getD j .non])) Tj = some (.tup [.int (j : Nat), pvs.getD j .non]) := upd_same
      generalize upd F9 Tj (.tup [.int (j : Nat), pvs.getD j .non]) = F10 at W10 s10 hT1
      generalize upd H9 Tj (.tup [.int (j : Nat), pvs.getD j .non]) = H10 at W10 ⊢
      have hj' : j < Sc.rows.length := by rw [← hpl]; exact hj
      have hrw := (Gr.of (s9.trans s10)).dp (dpAll_get hpa j (by rw [List.length_map]; exact hj'))
      rw [getD_map (d := (⟨[], false⟩ : PRow)) hj'] at hrw
      have ej : Sc.rows.drop j = Sc.rows.getD j ⟨[], false⟩ :: Sc.rows.drop (j + 1) := by
        rw [List.getD_eq_getElem?_getD, List.getElem?_eq_getElem hj']
        exact List.drop_eq_getElem_cons hj'
      have hcw : (Sc.rows.getD j ⟨[], false⟩).cells.length ≤ 60 := by rw [A6.wf.rw _ (getD_mem hj')]; exact A6.wf.w2
      generalize Sc.rows.getD j ⟨[], false⟩ = rw1 at hrw ej hcw
      obtain ⟨pr, rvs, erv, hprs, hpra⟩ := lst_view hrw
      generalize pvs.getD j .non = vv at hT1 erv
      subst erv
      refine x_gtup (st_of (W10.old _ _ hT1)) rfl ?_
      walk_at "r"
      refine x_joinIn W10 (by show 8 < 9; decide) hprs hpra (by omega) fun F11 H11 e11 W11 => ?_
      walk_at "r"
      refine ⟨_, _, rfl, rfl, ?_⟩
      generalize hfi : Txt.find (T (rw1.cells.map (·.sign))) (T l) = fi
      walk_at "r"
      refine wD (fun h0 => ?_) (fun h0 => ?_)
      · walk_at "r"
        refine n_tupF W11 (sz rfl) fun q F12 H12 e12 h12 W12 => ?_
        refine k3 _ F12 H12 (e1.trans (s14.trans (s5.trans (e6.trans (e7.trans (e8.trans (s9.trans (s10.trans (e11.trans e12))))))))) ?_ W12
        have ef : S.firstWith l = some (r.1, j, fi) := by
          rw [hf, er]
          show (match findRow l (S.screenAt (r.1 : Nat)).rows 0 with | some q => some (r.1, q.1, q.2) | none => S.firstIn l (rs.drop (i + 1))) = _
          have ef2 : findRow l Sc.rows 0 = some (j, fi) := by
            rw [hfr, ej]
            show (if 0 ≤ Txt.find (T (rw1.cells.map (·.sign))) (T l) then some (j, Txt.find (T (rw1.cells.map (·.sign))) (T l)) else _) = _
            rw [hfi, if_pos h0]
          rw [hS, ef2]
        rw [ef]
        exact .tup (st_of h12) (.cons (.int _) (.cons (.int _) (.cons (.int _) .nil)))
      · walk_at "r"
        refine ⟨_, _, _, _, _, F11, rfl, s9.trans (s10.trans e11), ?_, W11⟩
        rw [hfr, ej]
        show (if 0 ≤ Txt.find (T (rw1.cells.map (·.sign))) (T l) then some (j, Txt.find (T (rw1.cells.map (·.sign))) (T l)) else _) = _
        rw [hfi, if_neg h0]
    · rintro σ H9 ⟨z2, z5, z6, z7, z8, F9, rfl, s9, hfr, W9⟩
      rw [hpl, List.drop_length] at hfr
      have hfr' : findRow l Sc.rows 0 = none := hfr
      walk_at "r"
      refine ⟨_, _, _, _, _, _, _, F9, rfl, s5.trans (e6.trans (e7.trans (e8.trans s9))), ?_, W9⟩
      rw [hf, er]
      show (match findRow l (S.screenAt (r.1 : Nat)).rows 0 with | some q => some (r.1, q.1, q.2) | none => S.firstIn l (rs.drop (i + 1))) = _
      rw [hS, hfr']
  · rintro σ H5 ⟨z2, z3, z4, z5, z6, z7, z8, F5, rfl, s5, hf, W5⟩
    rw [hrl, List.drop_length] at hf
    have hf' : S.firstWith l = none := hf
    walk_at "r"
    refine k3 .non F5 H5 (e1.trans (s14.trans s5)) ?_ W5
    rw [hf']; exact .non
end
end Ss
/-! ## Pages 1: what is a page, told of data -/
namespace Ss
open PySem PySem.Spec PyProof.Rows L2
open Ss in
local macro_rules | `(tactic| walk_at "r") => `(tactic| repeat (first
  | with_reducible refine x_seq ?_ | with_reducible refine x_asg ?_ | with_reducible refine x_var rfl ?_ | with_reducible refine x_c ?_ | with_reducible refine x_op ?_ | with_reducible refine x_name ?_ | with_reducible refine x_gcons ?_ | with_reducible refine x_gnil ?_
  | with_reducible refine x_cons ?_ | with_reducible refine x_nil ?_ | with_reducible refine x_cb ?_ | with_reducible refine x_ifs ?_ | with_reducible refine x_test ?_ | with_reducible refine x_bl ?_
  | with_reducible refine g_addNN ?_ | with_reducible refine g_addNL ?_ | with_reducible refine g_addLN ?_ | with_reducible refine l_addI ?_ | with_reducible refine l_subI ?_ | with_reducible refine g_ltNL ?_ | with_reducible refine l_ltI ?_ | with_reducible refine l_leI ?_ | with_reducible refine l_gtI ?_ | with_reducible refine l_geI ?_ | with_reducible refine l_eqX ?_ | with_reducible refine l_neX ?_ | with_reducible refine g_eqNL ?_ | with_reducible refine l_eqII ?_ | with_reducible refine l_neII ?_ | with_reducible refine l_eq rfl ?_ | with_reducible refine l_ne rfl ?_
  | with_reducible refine x_fld ?_ | with_reducible refine x_ret ?_ | with_reducible refine x_drop ?_ | with_reducible refine x_next ?_ | with_reducible refine x_tup ?_ | with_reducible refine x_lst ?_ | with_reducible refine x_f ?_ | with_reducible refine x_o ?_ | with_reducible refine x_n ?_
  | with_reducible refine x_bm ?_ | with_reducible refine x_bm0 ?_ | with_reducible refine x_m1 ?_ | with_reducible refine x_m0 ?_ | with_reducible refine x_isstr ?_ | with_reducible refine x_tystr ?_ | with_reducible refine x_sl ?_ | with_reducible refine x_part ?_ | with_reducible refine x_part' ?_ | with_reducible refine x_nopart ?_
  | with_reducible refine x_sfld ?_ | with_reducible refine x_if ?_ | with_reducible refine x_isty ?_ | with_reducible refine x_chain ?_ | with_reducible refine x_andV ?_ | with_reducible refine x_orV ?_ | with_reducible refine x_notV ?_ | with_reducible refine x_B ?_ | with_reducible refine x_and ?_ | with_reducible refine x_or ?_ | with_reducible refine x_not ?_ | with_reducible refine x_tru ?_ | with_reducible refine x_yes ?_
  | with_reducible refine x_un ?_ | with_reducible refine x_neg ?_ | with_reducible refine x_par ?_ | with_reducible refine x_par' ?_ | with_reducible refine x_retN ?_ | with_reducible refine x_brk ?_ | with_reducible refine x_cont ?_ | with_reducible refine x_rz ?_
  | with_reducible refine l_leS ?_ | with_reducible refine l_ltS ?_ | with_reducible refine l_inX ?_ | with_reducible refine l_niX ?_ | with_reducible refine l_inS ?_ | with_reducible refine l_niS ?_ | with_reducible refine l_count ?_ | with_reducible refine l_ord ?_ | with_reducible refine l_max ?_ | with_reducible refine l_min ?_ | with_reducible refine l_intI ?_ | with_reducible refine l_intB ?_ | with_reducible refine l_is ?_ | with_reducible refine l_isn ?_
  | with_reducible refine g_modNL (by decide) ?_ | with_reducible refine g_divNL (by decide) (by decide) ?_ | with_reducible refine l_modI (by decide) ?_ | with_reducible refine x_for ?_ | with_reducible refine x_lc ?_ | with_reducible refine x_ilist ?_ | with_reducible refine x_itup ?_ | with_reducible refine x_istr ?_ | with_reducible refine x_istr' ?_ | with_reducible refine x_irng1 ?_ | with_reducible refine x_irng2 ?_
  | (with_reducible refine x_get (by first | assumption | exact Hold.get0 (by assumption) | exact Hold.get1 (by assumption)) (by assumption) (by assumption) (by walk_at "fg") ?_)
  | (with_reducible refine x_ao (by first | assumption | exact Hold.get0 (by assumption) | exact Hold.get1 (by assumption)) (by kernel_rfl) ?_)
  | with_reducible refine x_ienum ?_ | with_reducible refine x_izip ?_ | with_reducible refine x_chain3 ?_
  | (with_reducible refine x_par2 ?_)
  | (with_reducible refine x_par3 ?_) | (with_reducible refine x_par3' ?_)))
def tyName : PyData → String
  | .none => "NoneType"
  | .bool _ => "bool"
  | .int _ => "int"
  | .str _ => "str"
  | .list _ => "list"
  | .tuple _ => "tuple"
  | .dict _ => "dict"
theorem ty_of_dp {K : PySem.W.Frag} {F : Hp} {v : V} {d : PyData} (h : Dp K F v d) : TyX K F v (.type (tyName d)) := by
  cases h with
  | non => exact .base .non
  | bl b => exact .base (.bl b)
  | int i => exact .base (.int i)
  | str x => exact .base (.str x)
  | lst hs _ =>
    rcases hs with (h | ⟨o, h⟩) | ⟨o, its, n, h1, h2, _⟩
    · exact .base (.lst h)
    · exact .base (.frz h)
    · exact .kList h1 h2
  | tup hs _ =>
    rcases hs with (h | ⟨o, h⟩) | ⟨o, its, n, h1, h2, _⟩
    · exact .base (.tup h)
    · exact .fTuple h
    · exact .kTuple h1 h2
def cntD (d : PyData) (lo hi : Int) : Bool := match d with
  | .int n => decide (lo ≤ n) && decide (n ≤ hi)
  | _ => false
theorem cnt_of_dp {c : Ctx} {F : Hp} {v : V} {d : PyData} (h : Dp c.K F v d) : CntArg c F v ∧ ∀ lo hi, cntOk v lo hi = cntD d lo hi := by
  have t := ty_of_dp h
  cases h with
  | non => exact ⟨.inr (.inr ⟨⟨_, t, by decide +kernel⟩, fun _ e => by cases e⟩), fun _ _ => rfl⟩
  | bl b => exact ⟨.inr (.inl ⟨b, rfl⟩), fun _ _ => rfl⟩
  | int i => exact ⟨.inl ⟨i, rfl⟩, fun _ _ => rfl⟩
  | str x => exact ⟨.inr (.inr ⟨⟨_, t, (by decide +kernel : kitB "str" "int" = some false)⟩, fun _ e => by cases e⟩), fun _ _ => rfl⟩
  | lst hs ha => exact ⟨.inr (.inr ⟨⟨_, t, (by decide +kernel : kitB "list" "int" = some false)⟩, fun _ e => by cases e⟩), fun _ _ => rfl⟩
  | tup hs ha => exact ⟨.inr (.inr ⟨⟨_, t, (by decide +kernel : kitB "tuple" "int" = some false)⟩, fun _ e => by cases e⟩), fun _ _ => rfl⟩
def isPenD : PyData → Bool
  | .tuple [a, b, e] => cntD a 0 7 && (cntD b 0 7 && cntD e 0 3)
  | _ => false
def sgnD (x : Str) : Bool := decide (x.length = 1) && x.cps.toList.all fun n => !decide (n = 10) && isSign n
def isCellD : PyData → Bool
  | .tuple [.str x, p] => sgnD x && isPenD p
  | _ => false
def isListD : PyData → Bool
  | .list _ => true
  | _ => false
def isTupD : PyData → Bool
  | .tuple _ => true
  | _ => false
def isStrD : PyData → Bool
  | .str _ => true
  | _ => false
def lenD : PyData → Nat
  | .list l => l.length
  | .tuple l => l.length
  | _ => 0
def cellsD : PyData → List PyData
  | .list l => l
  | _ => []
def isPageD : PyData → Bool
  | .list rows => decide (0 < rows.length) && rows.all isListD && (decide (0 < lenD (rows.getD 0 .none)) && rows.all fun r => decide (lenD r = lenD (rows.getD 0 .none))) && rows.all fun r => (cellsD r).all isCellD
  | _ => false
mutual
/-- nothing in it is long -/
def smB : PyData → Bool
  | .list ds => decide (ds.length ≤ 100000) && smAll ds
  | .tuple ds => decide (ds.length ≤ 100000) && smAll ds
  | .str x => decide (x.length ≤ 1000000)
  | _ => true
def smAll : List PyData → Bool
  | [] => true
  | d :: ds => smB d && smAll ds
end
theorem smAll_mem : ∀ {ds : List PyData}, smAll ds = true → ∀ d ∈ ds, smB d = true
  | [], _, _, h => (nomatch h)
  | d :: ds, h, x, hx => by
    have h' : (smB d && smAll ds) = true := h
    rw [Bool.and_eq_true] at h'
    rcases List.mem_cons.mp hx with rfl | hx
    · exact h'.1
    · exact smAll_mem h'.2 x hx
theorem smAll_of : ∀ {ds : List PyData}, (∀ d ∈ ds, smB d = true) → smAll ds = true
  | [], _ => rfl
  | d :: ds, h => by
    show (smB d && smAll ds) = true
    rw [h d List.mem_cons_self, smAll_of fun x hx => h x (List.mem_cons_of_mem _ hx)]; rfl
theorem sm_list {ds : List PyData} (h : smB (.list ds) = true) : ds.length ≤ 100000 ∧ ∀ d ∈ ds, smB d = true := by
  have h' : (decide (ds.length ≤ 100000) && smAll ds) = true := h
  rw [Bool.and_eq_true, decide_eq_true_eq] at h'
  exact ⟨h'.1, smAll_mem h'.2⟩
theorem sm_tup {ds : List PyData} (h : smB (.tuple ds) = true) : ds.length ≤ 100000 ∧ ∀ d ∈ ds, smB d = true := by
  have h' : (decide (ds.length ≤ 100000) && smAll ds) = true := h
  rw [Bool.and_eq_true, decide_eq_true_eq] at h'
  exact ⟨h'.1, smAll_mem h'.2⟩
theorem sm_str {x : Str} (h : smB (.str x) = true) : x.length ≤ 1000000 := by
  have h' : decide (x.length ≤ 1000000) = true := h
  exact of_decide_eq_true h'
/-- what a call that asks a thing tells -/
abbrev AskD (c : Ctx) (f : PyData → Bool) : Sp := fun vs H Q _ => ∃ v d F L, vs = [v] ∧ Dp c.K F v d ∧ smB d = true ∧ Hold F L H ∧ ∀ F' H', Same F F' → Hold F' L H' → Q (.bl (f d)) H'
def sp_is_pen (c : Ctx) : Sp := AskD c isPenD
def sp_is_cell (c : Ctx) : Sp := AskD c isCellD
def sp_need (c : Ctx) : Sp := fun vs H Q E => ∃ b : Bool, vs = [.bl b] ∧ (b = true → Q .non H) ∧ (b = false → E (.ref c.cBadPage) none H)
def sp_need_page (c : Ctx) : Sp := fun vs H Q E => ∃ v d F L, vs = [v] ∧ Dp c.K F v d ∧ smB d = true ∧ Hold F L H ∧ (isPageD d = true → ∀ F' H', Same F F' → Hold F' L H' → Q .non H') ∧ (isPageD d = false → ∀ F' H', Same F F' → Hold F' L H' → E (.ref c.cBadPage) none H')
abbrev v_MOST_COLOUR (_ : Ctx) : V := .int 7
abbrev v_MOST_MARKS (_ : Ctx) : V := .int 3
def t_is_pen (c : Ctx) (E : XK) : TS :=
  (tSeq (tIfS (tOr (tNot (tB (tIsTy c.K (tVar 0) "tuple"))) (tTest (tOp (uNe c.K) (tCB (uLen c.K) (tCons (tVar 0) tNil)) (tC (.int 3))))) (tRet (tC (.bl false))) tNext)
  (tRet (tCB (rAll c.K) (tCons (tLc (RZ.iZipA c.K (tCons (tVar 0) (tCons (tTup (tCons (tC (v_MOST_COLOUR c)) (tCons (tC (v_MOST_COLOUR c)) (tCons (tC (v_MOST_MARKS c)) tNil)))) tNil))) (gTup c.K 2 (gCons (gName 1) (gCons (gName 2) gNil))) tYes (tF (sp_is_count c) E0 (tCons (tVar 1) (tCons (tC (.int 0)) (tCons (tVar 2) tNil)))) [1, 2]) tNil))))
abbrev N_is_pen : List Str := ["thing", "one", "most"]

def t_is_cell (c : Ctx) (E : XK) : TS :=
  (tSeq (tIfS (tOr (tNot (tB (tIsTy c.K (tVar 0) "tuple"))) (tOr (tTest (tOp (uNe c.K) (tCB (uLen c.K) (tCons (tVar 0) tNil)) (tC (.int 2)))) (tOr (tNot (tB (tIsTy c.K (tOp (uIx c.K) (tVar 0) (tC (.int 0))) "str"))) (tTest (tOp (uNe c.K) (tCB (uLen c.K) (tCons (tOp (uIx c.K) (tVar 0) (tC (.int 0))) tNil)) (tC (.int 1))))))) (tRet (tC (.bl false))) tNext)
  (tRet (tAndV (tOp (uNe c.K) (tOp (uIx c.K) (tVar 0) (tC (.int 0))) (tC (v_GAP c))) (tAndV (tF (sp_is_sign c) E0 (tCons (tOp (uIx c.K) (tVar 0) (tC (.int 0))) tNil)) (tF (sp_is_pen c) E0 (tCons (tOp (uIx c.K) (tVar 0) (tC (.int 1))) tNil))))))
abbrev N_is_cell : List Str := ["thing"]

def t_need (c : Ctx) (E : XK) : TS :=
  (tIfS (tNot (tB (tVar 0))) (tRz c.cBadPage E) tNext)
abbrev N_need : List Str := ["good"]

def t_need_page (c : Ctx) (E : XK) : TS :=
  (tSeq (tDrop (tF (sp_need c) E (tCons (tAndV (tIsTy c.K (tVar 0) "list") (tAndV (tOp uGt (tCB (uLen c.K) (tCons (tVar 0) tNil)) (tC (.int 0))) (tCB (rAll c.K) (tCons (tLc (iList c.K (tVar 0)) (gName 1) tYes (tIsTy c.K (tVar 1) "list") [1]) tNil)))) tNil)))
  (tSeq (tDrop (tF (sp_need c) E (tCons (tAndV (tOp uGt (tCB (uLen c.K) (tCons (tOp (uIx c.K) (tVar 0) (tC (.int 0))) tNil)) (tC (.int 0))) (tCB (rAll c.K) (tCons (tLc (iList c.K (tVar 0)) (gName 1) tYes (tOp (uEq c.K) (tCB (uLen c.K) (tCons (tVar 1) tNil)) (tCB (uLen c.K) (tCons (tOp (uIx c.K) (tVar 0) (tC (.int 0))) tNil))) [1]) tNil))) tNil)))
  (tFor (iList c.K (tVar 0)) (gName 1) (tDrop (tF (sp_need c) E (tCons (tCB (rAll c.K) (tCons (tLc (iList c.K (tVar 1)) (gName 2) tYes (tF (sp_is_cell c) E0 (tCons (tVar 2) tNil)) [2]) tNil)) tNil))))))
abbrev N_need_page : List Str := ["page", "row", "cell"]

section
variable {c : Ctx}
theorem rd_need : RD N_need (t_need c) (sp_need c) := by
  rintro vs H Q E ⟨b, rfl, k1, k2⟩
  unfold t_need
  walk_at "r"
  cases b with
  | true => refine wF rfl ?_; walk_at "r"; exact k1 rfl
  | false => refine wT rfl ?_; walk_at "r"; exact k2 rfl
theorem three_of {α : Type} {l : List α} (h : l.length = 3) : ∃ a b e, l = [a, b, e] := by
  match l, h with
  | [a, b, e], _ => exact ⟨a, b, e, rfl⟩
/-- isinstance, told of data -/
theorem l_isD {F H : Hp} {L : List (Addr × HO)} {Q : VK} {v : V} {d : PyData} {t : String} {b : Bool} (h : Dp c.K F v d) (W : Hold F L H) (hk : kitB (tyName d) t = some b) (q : Q (.bl b) H) : rIsi c.K [v, .ty t] H Q := l_isTy (tyX_gr W.gr (ty_of_dp h)) hk q
theorem kit_tup : ∀ d, kitB (tyName d) "tuple" = some (isTupD d)
  | .none => (by decide +kernel : kitB "NoneType" "tuple" = some false)
  | .bool _ => (by decide +kernel : kitB "bool" "tuple" = some false)
  | .int _ => (by decide +kernel : kitB "int" "tuple" = some false)
  | .str _ => (by decide +kernel : kitB "str" "tuple" = some false)
  | .list _ => (by decide +kernel : kitB "list" "tuple" = some false)
  | .tuple _ => (by decide +kernel : kitB "tuple" "tuple" = some true)
  | .dict _ => (by decide +kernel : kitB "dict" "tuple" = some false)
theorem kit_list : ∀ d, kitB (tyName d) "list" = some (isListD d)
  | .none => (by decide +kernel : kitB "NoneType" "list" = some false)
  | .bool _ => (by decide +kernel : kitB "bool" "list" = some false)
  | .int _ => (by decide +kernel : kitB "int" "list" = some false)
  | .str _ => (by decide +kernel : kitB "str" "list" = some false)
  | .list _ => (by decide +kernel : kitB "list" "list" = some true)
  | .tuple _ => (by decide +kernel : kitB "tuple" "list" = some false)
  | .dict _ => (by decide +kernel : kitB "dict" "list" = some false)
theorem kit_str : ∀ d, kitB (tyName d) "str" = some (isStrD d)
  | .none => (by decide +kernel : kitB "NoneType" "str" = some false)
  | .bool _ => (by decide +kernel : kitB "bool" "str" = some false)
  | .int _ => (by decide +kernel : kitB "int" "str" = some false)
  | .str _ => (by decide +kernel : kitB "str" "str" = some true)
  | .list _ => (by decide +kernel : kitB "list" "str" = some false)
  | .tuple _ => (by decide +kernel : kitB "tuple" "str" = some false)
  | .dict _ => (by decide +kernel : kitB "dict" "str" = some false)
theorem rd_is_pen : RD N_is_pen (t_is_pen c) (sp_is_pen c) := by
  rintro vs H Q E ⟨v, d, F, L, rfl, hd, hsm, W, kk⟩
  unfold t_is_pen
  walk_at "r"
  refine l_isD hd W (kit_tup d) ?_
  by_cases ht : ∃ ds, d = .tuple ds
  · obtain ⟨ds, rfl⟩ := ht
    obtain ⟨p, xs, rfl, hs, ha⟩ := tup_view hd
    have hln := dpAll_len ha
    walk_at "r"
    refine wF rfl ?_
    walk_at "r"
    refine l_lenT (W.gr.sqT hs) ?_
    walk_at "r"
    by_cases h3 : ds.length = 3
    · obtain ⟨d0, d1, d2, rfl⟩ := three_of h3
      obtain ⟨x0, x1, x2, rfl⟩ := three_of (hln.trans h3)
      refine wF rfl ?_
      walk_at "r"
      refine n_tupF W (sz rfl) fun t F1 H1 e1 h1 W1 => ?_
      walk_at "r"
      refine ⟨p, t, _, _, rfl, .inr ⟨W1.gr.sqT ((Gr.of e1).sqT hs), st_of (W1.old _ _ h1), ?_⟩⟩
      cases ha with | cons g0 ha => cases ha with | cons g1 ha => cases ha with | cons g2 ha =>
      have ef : isPenD (.tuple [d0, d1, d2]) = (List.range 3).all fun i => cntOk ([x0, x1, x2].getD i .non) 0 ([7, 7, 3].getD i 0) := by
        show (cntD d0 0 7 && (cntD d1 0 7 && cntD d2 0 3)) = (cntOk x0 0 7 && (cntOk x1 0 7 && (cntOk x2 0 3 && true)))
        rw [(cnt_of_dp g0).2, (cnt_of_dp g1).2, (cnt_of_dp g2).2, Bool.and_true]
      rw [ef] at kk
      refine x_allz (p := fun i => cntOk ([x0, x1, x2].getD i .non) 0 ([7, 7, 3].getD i 0)) (ItTup.zipT (F := F1) ((Gr.of e1).sqT hs) (st_of h1) rfl) W1 (by simp) (fun d i T F' H' QQ hi s hT W' kq => ?_) (gm_tup gm_two) (fun F' H' s W' => kk F' H' (e1.trans s) W')
      refine x_gtup (st_of (W'.old _ _ hT)) rfl ?_
      have hi : i < 3 := hi
      have gi : CntArg c F' ([x0, x1, x2].getD i .non) ∧ [V.int 7, V.int 7, V.int 3].getD i .non = .int ([7, 7, 3].getD i 0) := by
        have gr := (Gr.of (e1.trans s))
        rcases (show i = 0 ∨ i = 1 ∨ i = 2 by omega) with rfl | rfl | rfl
        · exact ⟨(cnt_of_dp (gr.dp g0)).1, rfl⟩
        · exact ⟨(cnt_of_dp (gr.dp g1)).1, rfl⟩
        · exact ⟨(cnt_of_dp (gr.dp g2)).1, rfl⟩
      obtain ⟨gi, ei⟩ := gi
      rw [ei]
      generalize [x0, x1, x2].getD i .non = xi at gi kq ⊢
      generalize [7, 7, 3].getD i 0 = mi at kq ⊢
      walk_at "r"
      refine ⟨wipe2 (by decide), ?_⟩
      walk_at "r"
      exact ⟨_, _, _, rfl, gi.gr W'.gr, kq F' H' (Same.refl F') W'⟩
    · refine wT (by rw [hln]; simp; omega) ?_
      walk_at "r"
      have e : isPenD (.tuple ds) = false := by
        match ds, h3 with
        | [], _ => rfl
        | [_], _ => rfl
        | [_, _], _ => rfl
        | [_, _, _], h => exact absurd rfl h
        | _ :: _ :: _ :: _ :: _, _ => rfl
      rw [e] at kk
      exact kk F H (Same.refl F) W
  · have e1 : isTupD d = false := by
      cases d with
      | tuple ds => exact absurd ⟨ds, rfl⟩ ht
      | _ => rfl
    rw [e1]
    walk_at "r"
    refine wT rfl ?_
    walk_at "r"
    refine wT rfl ?_
    walk_at "r"
    have e : isPenD d = false := by
      cases d with
      | tuple ds => exact absurd ⟨ds, rfl⟩ ht
      | _ => rfl
    rw [e] at kk
    exact kk F H (Same.refl F) W
theorem two_of' {α : Type} {l : List α} (h : l.length = 2) : ∃ a b, l = [a, b] := by
  match l, h with
  | [a, b], _ => exact ⟨a, b, rfl⟩
theorem rd_is_cell : RD N_is_cell (t_is_cell c) (sp_is_cell c) := by
  rintro vs H Q E ⟨v, d, F, L, rfl, hd, hsm, W, kk⟩
  unfold t_is_cell
  walk_at "r"
  refine l_isD hd W (kit_tup d) ?_
  by_cases ht : ∃ ds, d = .tuple ds
  · obtain ⟨ds, rfl⟩ := ht
    obtain ⟨p, xs, rfl, hs, ha⟩ := tup_view hd
    have hln := dpAll_len ha
    walk_at "r"
    refine wF rfl ?_
    walk_at "r"
    refine l_lenT (W.gr.sqT hs) ?_
    walk_at "r"
    by_cases h2 : ds.length = 2
    · obtain ⟨d0, d1, rfl⟩ := two_of' h2
      obtain ⟨x0, x1, rfl⟩ := two_of' (hln.trans h2)
      cases ha with | cons g0 ha => cases ha with | cons g1 ha =>
      refine wF rfl ?_
      walk_at "r"
      refine l_ixT (W.gr.sqT hs) (by rfl) ?_
      refine l_isD g0 W (kit_str d0) ?_
      by_cases hst : ∃ x, d0 = .str x
      · obtain ⟨x, rfl⟩ := hst
        obtain ⟨l, rfl⟩ : ∃ l, x = T l := ⟨_, Str_T x⟩
        cases g0
        have hl : l.length ≤ 1000000 := by
          have z := sm_str ((sm_tup hsm).2 _ List.mem_cons_self)
          rw [T_len] at z; exact z
        have ec : isCellD (.tuple [.str (T l), d1]) = ((decide (l.length = 1) && l.all fun n => !decide (n = 10) && isSign n) && isPenD d1) := by
          show ((decide ((T l).length = 1) && (T l).cps.toList.all fun n => !decide (n = 10) && isSign n) && isPenD d1) = _
          rw [T_len, T_list]
        rw [ec] at kk
        walk_at "r"
        refine wF rfl ?_
        walk_at "r"
        refine l_ixT (W.gr.sqT hs) (by rfl) ?_
        walk_at "r"
        refine l_lenX hl ?_
        walk_at "r"
        by_cases h1 : l.length = 1
        · obtain ⟨n, rfl⟩ := List.length_eq_one_iff.mp h1
          refine wF rfl ?_
          walk_at "r"
          refine l_ixT (W.gr.sqT hs) (by rfl) ?_
          walk_at "r"
          have el : (([n] : List Nat).all fun n => !decide (n = 10) && isSign n) = (!decide (n = 10) && isSign n) := by simp
          rw [decide_eq_true (show ([n] : List Nat).length = 1 from rfl), Bool.true_and, el] at kk
          by_cases h10 : n = 10
          · subst h10
            refine wF rfl ?_
            walk_at "r"
            exact kk F H (Same.refl F) W
          · have e10 : (!decide (([n] : List Nat) = [10])) = true := by simp [h10]
            refine wT e10 ?_
            rw [show (!decide (n = 10)) = true by simp [h10], Bool.true_and] at kk
            walk_at "r"
            refine l_ixT (W.gr.sqT hs) (by rfl) ?_
            walk_at "r"
            refine ⟨n, rfl, ?_⟩
            cases hsg : isSign n with
            | false =>
              rw [hsg] at kk
              walk_at "r"
              refine wF rfl ?_
              walk_at "r"
              exact kk F H (Same.refl F) W
            | true =>
              rw [hsg, Bool.true_and] at kk
              walk_at "r"
              refine wT rfl ?_
              walk_at "r"
              refine l_ixT (W.gr.sqT hs) (by rfl) ?_
              walk_at "r"
              exact ⟨x1, d1, F, L, rfl, g1, (sm_tup hsm).2 _ (List.mem_cons_of_mem _ List.mem_cons_self), W, kk⟩
        · refine wT (by simp [h1]; omega) ?_
          walk_at "r"
          rw [decide_eq_false h1, Bool.false_and, Bool.false_and] at kk
          exact kk F H (Same.refl F) W
      · have e1 : isStrD d0 = false := by
          cases d0 with
          | str x => exact absurd ⟨x, rfl⟩ hst
          | _ => rfl
        rw [e1]
        walk_at "r"
        refine wT rfl ?_
        walk_at "r"
        refine wT rfl ?_
        walk_at "r"
        have e : isCellD (.tuple [d0, d1]) = false := by
          cases d0 with
          | str x => exact absurd ⟨x, rfl⟩ hst
          | _ => rfl
        rw [e] at kk
        exact kk F H (Same.refl F) W
    · refine wT (by rw [hln]; simp; omega) ?_
      walk_at "r"
      refine wT rfl ?_
      walk_at "r"
      have e : isCellD (.tuple ds) = false := by
        match ds, h2 with
        | [], _ => rfl
        | [x], _ => cases x <;> rfl
        | [_, _], h => exact absurd rfl h
        | x :: _ :: _ :: _, _ => cases x <;> rfl
      rw [e] at kk
      exact kk F H (Same.refl F) W
  · have e1 : isTupD d = false := by
      cases d with
      | tuple ds => exact absurd ⟨ds, rfl⟩ ht
      | _ => rfl
    rw [e1]
    walk_at "r"
    refine wT rfl ?_
    walk_at "r"
    refine wT rfl ?_
    walk_at "r"
    have e : isCellD d = false := by
      cases d with
      | tuple ds => exact absurd ⟨ds, rfl⟩ ht
      | _ => rfl
    rw [e] at kk
    exact kk F H (Same.refl F) W
theorem list_of_isListD {d : PyData} (h : isListD d = true) : ∃ ds, d = .list ds := by
  cases d with
  | list ds => exact ⟨ds, rfl⟩
  | _ => cases h
theorem getD_sm {ds : List PyData} (h : ∀ d ∈ ds, smB d = true) {i : Nat} (hi : i < ds.length) : smB (ds.getD i .none) = true := h _ (getD_mem hi)
theorem rd_need_page : RD N_need_page (t_need_page c) (sp_need_page c) := by
  rintro vs H Q E ⟨v, d, F, L, rfl, hd, hsm, W, k1, k2⟩
  unfold t_need_page
  walk_at "r"
  refine l_isD hd W (kit_list d) ?_
  walk_at "r"
  cases hlt : isListD d with
  | false =>
    refine wF rfl ?_
    have e : isPageD d = false := by
      cases d with
      | list ds => cases hlt
      | _ => rfl
    walk_at "r"
    exact ⟨false, rfl, fun z => (nomatch z), fun _ => k2 e F H (Same.refl F) W⟩
  | true =>
  obtain ⟨rows, rfl⟩ := list_of_isListD hlt
  obtain ⟨p, xs, rfl, hs, ha⟩ := lst_view hd
  have hln := dpAll_len ha
  obtain ⟨hn, hsr⟩ := sm_list hsm
  refine wT rfl ?_
  walk_at "r"
  refine l_lenL (W.gr.sqL hs) ?_
  rw [hln]
  walk_at "r"
  by_cases h0 : 0 < rows.length
  case neg =>
    refine wF (decide_eq_false (by omega)) ?_
    walk_at "r"
    have e : isPageD (.list rows) = false := by
      show (decide (0 < rows.length) && _ && _ && _) = false
      rw [decide_eq_false h0]; rfl
    exact ⟨false, rfl, fun z => (nomatch z), fun _ => k2 e F H (Same.refl F) W⟩
  refine wT (decide_eq_true (by omega)) ?_
  walk_at "r"
  refine x_ilist' (W.gr.sqL hs) ?_
  refine x_allc (F := F) (p := fun i => isListD (rows.getD i .none)) (ItOk.list hs) W (by rw [hln]; exact hn) (fun d i F' H' QQ hi s W' kq => ?_) gm_name (fun F1 H1 e1 W1 => ?_)
  · refine ⟨wipe1, ?_⟩
    have hi' : i < rows.length := by rw [← hln]; exact hi
    walk_at "r"
    refine l_isD ((Gr.of s).dp (dpAll_get ha i hi')) W' (kit_list _) ?_
    exact kq F' H' (Same.refl F') W'
  rw [hln, all_getD]
  cases hal : rows.all isListD with
  | false =>
    walk_at "r"
    have e : isPageD (.list rows) = false := by
      show (decide (0 < rows.length) && rows.all isListD && _ && _) = false
      rw [hal, Bool.and_false]; rfl
    exact ⟨false, rfl, fun z => (nomatch z), fun _ => k2 e F1 H1 e1 W1⟩
  | true =>
  walk_at "r"
  refine ⟨true, rfl, fun _ => ?_, fun z => (nomatch z)⟩
  have isl : ∀ i, i < rows.length → ∃ ds, rows.getD i .none = .list ds := fun i hi => list_of_isListD (List.all_eq_true.mp hal _ (getD_mem hi))
  obtain ⟨ds0, er0⟩ := isl 0 h0
  have g0 := dpAll_get ha 0 h0
  rw [er0] at g0
  obtain ⟨p0, xs0, ev0, hs0, ha0⟩ := lst_view g0
  have hl0 := dpAll_len ha0
  walk_at "r"
  refine g_ixL (n := 0) (W1.gr.sqL ((Gr.of e1).sqL hs)) (by rw [hln]; exact h0) ?_
  rw [ev0]
  walk_at "r"
  refine l_lenL (W1.gr.sqL ((Gr.of e1).sqL hs0)) ?_
  rw [hl0]
  walk_at "r"
  by_cases h00 : 0 < ds0.length
  case neg =>
    refine wF (decide_eq_false (by omega)) ?_
    walk_at "r"
    have e : isPageD (.list rows) = false := by
      show (decide (0 < rows.length) && rows.all isListD && (decide (0 < lenD (rows.getD 0 .none)) && _) && _) = false
      rw [er0, decide_eq_false (show ¬ 0 < lenD (.list ds0) from h00), Bool.false_and, Bool.and_false, Bool.false_and]
    exact ⟨false, rfl, fun z => (nomatch z), fun _ => k2 e F1 H1 e1 W1⟩
  refine wT (decide_eq_true (by omega)) ?_
  walk_at "r"
  refine x_ilist' (W1.gr.sqL ((Gr.of e1).sqL hs)) ?_
  refine x_allc (F := F1) (p := fun i => decide (lenD (rows.getD i .none) = ds0.length)) (ItOk.list ((Gr.of e1).sqL hs)) W1 (by rw [hln]; exact hn) (fun d i F' H' QQ hi s W' kq => ?_) gm_name (fun F2 H2 e2 W2 => ?_)
  · refine ⟨wipe1, ?_⟩
    have hi' : i < rows.length := by rw [← hln]; exact hi
    obtain ⟨dsi, eri⟩ := isl i hi'
    have gi := dpAll_get ha i hi'
    rw [eri] at gi
    obtain ⟨pi, xsi, evi, hsi, hai⟩ := lst_view gi
    rw [evi]
    have gr := Gr.of (e1.trans s)
    walk_at "r"
    refine l_lenL (W'.gr.sqL (gr.sqL hsi)) ?_
    rw [dpAll_len hai]
    walk_at "r"
    refine g_ixL (n := 0) (W'.gr.sqL (gr.sqL hs)) (by rw [hln]; exact h0) ?_
    rw [ev0]
    walk_at "r"
    refine l_lenL (W'.gr.sqL (gr.sqL hs0)) ?_
    rw [hl0]
    refine l_eqII ?_
    have e : decide (((dsi.length : Nat) : Int) = ((ds0.length : Nat) : Int)) = decide (lenD (rows.getD i .none) = ds0.length) := by
      rw [eri, Bool.eq_iff_iff, decide_eq_true_eq, decide_eq_true_eq]
      exact Int.ofNat_inj
    rw [e]
    exact kq F' H' (Same.refl F') W'
  rw [hln]
  have ef : ((List.range rows.length).all fun i => decide (lenD (rows.getD i .none) = ds0.length)) = rows.all fun r => decide (lenD r = lenD (rows.getD 0 .none)) := by
    rw [er0]
    exact all_getD (p := fun r => decide (lenD r = ds0.length)) rows
  rw [ef]
  cases hall : rows.all fun r => decide (lenD r = lenD (rows.getD 0 .none)) with
  | false =>
    walk_at "r"
    have e : isPageD (.list rows) = false := by
      show (decide (0 < rows.length) && rows.all isListD && (decide (0 < lenD (rows.getD 0 .none)) && rows.all fun r => decide (lenD r = lenD (rows.getD 0 .none))) && _) = false
      rw [hall, Bool.and_false, Bool.and_false, Bool.false_and]
    exact ⟨false, rfl, fun z => (nomatch z), fun _ => k2 e F2 H2 (e1.trans e2) W2⟩
  | true =>
  walk_at "r"
  refine ⟨true, rfl, fun _ => ?_, fun z => (nomatch z)⟩
  have ep : isPageD (.list rows) = rows.all fun r => (cellsD r).all isCellD := by
    show (decide (0 < rows.length) && rows.all isListD && (decide (0 < lenD (rows.getD 0 .none)) && rows.all fun r => decide (lenD r = lenD (rows.getD 0 .none))) && rows.all fun r => (cellsD r).all isCellD) = _
    rw [hall, hal, decide_eq_true h0, er0, decide_eq_true (show 0 < lenD (.list ds0) from h00)]
    simp only [Bool.true_and]
  rw [ep] at k1 k2
  have s02 : Same F F2 := e1.trans e2
  walk_at "r"
  refine x_ilist' (W2.gr.sqL ((Gr.of s02).sqL hs)) ?_
  refine x_forOk (F := F2) (ItOk.list ((Gr.of s02).sqL hs)) (fun i σ H' => ∃ z1 z2 F3, σ = [some (.ref p), z1, z2] ∧ Same F2 F3 ∧ (∀ j, j < i → ((cellsD (rows.getD j .none)).all isCellD) = true) ∧ Hold F3 L H')
    (fun i σ H' _ ⟨_, _, F3, _, s, _, W'⟩ => (Gr.of s).trans W'.gr) ⟨_, _, F2, rfl, Same.refl F2, fun j h => absurd h (Nat.not_lt_zero _), W2⟩ ?_ ?_
  · rintro i σ H3 hi ⟨z1, z2, F3, rfl, s3, hok, W3⟩
    have hi' : i < rows.length := by rw [← hln]; exact hi
    obtain ⟨dsi, eri⟩ := isl i hi'
    have gi := dpAll_get ha i hi'
    rw [eri] at gi
    obtain ⟨pi, xsi, evi, hsi, hai⟩ := lst_view gi
    have hli := dpAll_len hai
    have hsmi := getD_sm hsr hi'
    rw [eri] at hsmi
    rw [evi]
    have gr := Gr.of (s02.trans s3)
    walk_at "r"
    refine x_ilist' (W3.gr.sqL (gr.sqL hsi)) ?_
    refine x_allc (F := F3) (p := fun j => isCellD (dsi.getD j .none)) (ItOk.list (gr.sqL hsi)) W3 (by rw [hli]; exact (sm_list hsmi).1) (fun d j F' H' QQ hj s W' kq => ?_) gm_name (fun F4 H4 e4 W4 => ?_)
    · refine ⟨wipe1, ?_⟩
      have hj' : j < dsi.length := by rw [← hli]; exact hj
      walk_at "r"
      exact ⟨_, _, F', _, rfl, (gr.trans (Gr.of s)).dp (dpAll_get hai j hj'), getD_sm (sm_list hsmi).2 hj', W', fun F5 H5 e5 W5 => kq F5 H5 e5 W5⟩
    rw [hli, all_getD]
    walk_at "r"
    cases hc : dsi.all isCellD with
    | true =>
      refine ⟨true, rfl, fun _ => ?_, fun z => (nomatch z)⟩
      walk_at "r"
      refine ⟨_, _, F4, rfl, s3.trans e4, fun j hj => ?_, W4⟩
      rcases Nat.lt_succ_iff_lt_or_eq.mp hj with h | rfl
      · exact hok j h
      · rw [eri]; exact hc
    | false =>
      refine ⟨false, rfl, fun z => (nomatch z), fun _ => k2 ?_ F4 H4 (s02.trans (s3.trans e4)) W4⟩
      cases e : rows.all fun r => (cellsD r).all isCellD with
      | false => rfl
      | true =>
        have z := List.all_eq_true.mp e _ (getD_mem (d := .none) hi')
        rw [eri] at z
        have z' : dsi.all isCellD = true := z
        rw [hc] at z'; cases z'
  · rintro σ H3 ⟨z1, z2, F3, rfl, s3, hok, W3⟩
    rw [hln] at hok
    walk_at "r"
    refine k1 ?_ F3 H3 (s02.trans s3) W3
    rw [← all_getD (d := .none) (p := fun r => (cellsD r).all isCellD)]
    exact List.all_eq_true.mpr fun j hj => hok j (List.mem_range.mp hj)
end
end Ss
/-! ## Pages 2: what is a stretch; pages and stretches refused -/
namespace Ss
open PySem PySem.Spec PyProof.Rows L2
open Ss in
local macro_rules | `(tactic| walk_at "r") => `(tactic| repeat (first
  | with_reducible refine x_seq ?_ | with_reducible refine x_asg ?_ | with_reducible refine x_var rfl ?_ | with_reducible refine x_c ?_ | with_reducible refine x_op ?_ | with_reducible refine x_name ?_ | with_reducible refine x_gcons ?_ | with_reducible refine x_gnil ?_
  | with_reducible refine x_cons ?_ | with_reducible refine x_nil ?_ | with_reducible refine x_cb ?_ | with_reducible refine x_ifs ?_ | with_reducible refine x_test ?_ | with_reducible refine x_bl ?_
  | with_reducible refine g_addNN ?_ | with_reducible refine g_addNL ?_ | with_reducible refine g_addLN ?_ | with_reducible refine l_addI ?_ | with_reducible refine l_subI ?_ | with_reducible refine g_ltNL ?_ | with_reducible refine l_ltI ?_ | with_reducible refine l_leI ?_ | with_reducible refine l_gtI ?_ | with_reducible refine l_geI ?_ | with_reducible refine l_eqX ?_ | with_reducible refine l_neX ?_ | with_reducible refine g_eqNL ?_ | with_reducible refine l_eqII ?_ | with_reducible refine l_neII ?_ | with_reducible refine l_eq rfl ?_ | with_reducible refine l_ne rfl ?_
  | with_reducible refine x_fld ?_ | with_reducible refine x_ret ?_ | with_reducible refine x_drop ?_ | with_reducible refine x_next ?_ | with_reducible refine x_tup ?_ | with_reducible refine x_lst ?_ | with_reducible refine x_f ?_ | with_reducible refine x_o ?_ | with_reducible refine x_n ?_
  | with_reducible refine x_bm ?_ | with_reducible refine x_bm0 ?_ | with_reducible refine x_m1 ?_ | with_reducible refine x_m0 ?_ | with_reducible refine x_isstr ?_ | with_reducible refine x_tystr ?_ | with_reducible refine x_sl ?_ | with_reducible refine x_part ?_ | with_reducible refine x_part' ?_ | with_reducible refine x_nopart ?_
  | with_reducible refine x_sfld ?_ | with_reducible refine x_if ?_ | with_reducible refine x_isty ?_ | with_reducible refine x_chain ?_ | with_reducible refine x_andV ?_ | with_reducible refine x_orV ?_ | with_reducible refine x_notV ?_ | with_reducible refine x_B ?_ | with_reducible refine x_and ?_ | with_reducible refine x_or ?_ | with_reducible refine x_not ?_ | with_reducible refine x_tru ?_ | with_reducible refine x_yes ?_
  | with_reducible refine x_un ?_ | with_reducible refine x_neg ?_ | with_reducible refine x_par ?_ | with_reducible refine x_par' ?_ | with_reducible refine x_retN ?_ | with_reducible refine x_brk ?_ | with_reducible refine x_cont ?_ | with_reducible refine x_rz ?_
  | with_reducible refine l_leS ?_ | with_reducible refine l_ltS ?_ | with_reducible refine l_inX ?_ | with_reducible refine l_niX ?_ | with_reducible refine l_inS ?_ | with_reducible refine l_niS ?_ | with_reducible refine l_count ?_ | with_reducible refine l_ord ?_ | with_reducible refine l_max ?_ | with_reducible refine l_min ?_ | with_reducible refine l_intI ?_ | with_reducible refine l_intB ?_ | with_reducible refine l_is ?_ | with_reducible refine l_isn ?_
  | with_reducible refine g_modNL (by decide) ?_ | with_reducible refine g_divNL (by decide) (by decide) ?_ | with_reducible refine l_modI (by decide) ?_ | with_reducible refine x_for ?_ | with_reducible refine x_lc ?_ | with_reducible refine x_ilist ?_ | with_reducible refine x_itup ?_ | with_reducible refine x_istr ?_ | with_reducible refine x_istr' ?_ | with_reducible refine x_irng1 ?_ | with_reducible refine x_irng2 ?_
  | (with_reducible refine x_get (by first | assumption | exact Hold.get0 (by assumption) | exact Hold.get1 (by assumption)) (by assumption) (by assumption) (by walk_at "fg") ?_)
  | (with_reducible refine x_ao (by first | assumption | exact Hold.get0 (by assumption) | exact Hold.get1 (by assumption)) (by kernel_rfl) ?_)
  | with_reducible refine x_ienum ?_ | with_reducible refine x_izip ?_ | with_reducible refine x_chain3 ?_
  | (with_reducible refine x_par2 ?_)
  | (with_reducible refine x_par3 ?_) | (with_reducible refine x_par3' ?_)))
def intD : PyData → Int
  | .int n => n
  | _ => 0
def isChangeD (h w : Nat) : PyData → Bool
  | .tuple [a, b, .tuple cs] => cntD a 0 ((h : Int) - 1) && (cntD b 0 ((w : Int) - 1) && (decide (1 ≤ (cs.length : Int)) && decide ((cs.length : Int) ≤ (w : Int) - intD b) && cs.all isCellD))
  | _ => false
theorem isPage_view {d : PyData} (h : isPageD d = true) : ∃ rows ds0, d = .list rows ∧ 0 < rows.length ∧ rows.getD 0 .none = .list ds0 ∧ 0 < ds0.length := by
  match d, h with
  | .list rows, h =>
    have h' : (decide (0 < rows.length) && rows.all isListD && (decide (0 < lenD (rows.getD 0 .none)) && rows.all fun r => decide (lenD r = lenD (rows.getD 0 .none))) && rows.all fun r => (cellsD r).all isCellD) = true := h
    simp only [Bool.and_eq_true, decide_eq_true_eq] at h'
    obtain ⟨⟨⟨h0, hl⟩, h1, _⟩, _⟩ := h'
    obtain ⟨ds0, e⟩ := list_of_isListD (List.all_eq_true.mp hl _ (getD_mem h0))
    rw [e] at h1
    exact ⟨rows, ds0, rfl, h0, e, h1⟩
def rowsD : PyData → Nat := fun d => (cellsD d).length
def wideD : PyData → Nat := fun d => lenD ((cellsD d).getD 0 .none)
def sp_is_change (c : Ctx) : Sp := fun vs H Q _ => ∃ vp rows ds0 v d F L, vs = [vp, v] ∧ Dp c.K F vp (.list rows) ∧ 0 < rows.length ∧ rows.length ≤ 100000 ∧ rows.getD 0 .none = .list ds0 ∧ Dp c.K F v d ∧ smB d = true ∧ Hold F L H ∧ ∀ F' H', Same F F' → Hold F' L H' → Q (.bl (isChangeD rows.length ds0.length d)) H'
def sp_page_texts (c : Ctx) : Sp := fun vs H Q E => ∃ v d F L, vs = [v] ∧ Dp c.K F v d ∧ smB d = true ∧ Hold F L H ∧ isPageD d = false ∧ ∀ F' H', Same F F' → Hold F' L H' → E (.ref c.cBadPage) none H'
def badChanges (d e : PyData) : Bool := !(isPageD d && isPageD e && decide (rowsD d = rowsD e) && decide (wideD d = wideD e))
def sp_changes (c : Ctx) : Sp := fun vs H Q E => ∃ v w d e F L, vs = [v, w] ∧ Dp c.K F v d ∧ smB d = true ∧ Dp c.K F w e ∧ smB e = true ∧ Hold F L H ∧ badChanges d e = true ∧ ∀ F' H', Same F F' → Hold F' L H' → E (.ref c.cBadPage) none H'
def badPaint (d e : PyData) : Bool := !(isPageD d && isListD e && (cellsD e).all (isChangeD (rowsD d) (wideD d)))
def sp_painted (c : Ctx) : Sp := fun vs H Q E => ∃ v w d e F L, vs = [v, w] ∧ Dp c.K F v d ∧ smB d = true ∧ Dp c.K F w e ∧ smB e = true ∧ Hold F L H ∧ badPaint d e = true ∧ ∀ F' H', Same F F' → Hold F' L H' → E (.ref c.cBadPage) none H'
def t_is_change (c : Ctx) (E : XK) : TS :=
  (tSeq (tIfS (tOr (tNot (tB (tIsTy c.K (tVar 1) "tuple"))) (tOr (tTest (tOp (uNe c.K) (tCB (uLen c.K) (tCons (tVar 1) tNil)) (tC (.int 3)))) (tNot (tB (tF (sp_is_count c) E0 (tCons (tOp (uIx c.K) (tVar 1) (tC (.int 0))) (tCons (tC (.int 0)) (tCons (tOp uSub (tCB (uLen c.K) (tCons (tVar 0) tNil)) (tC (.int 1))) tNil)))))))) (tRet (tC (.bl false))) tNext)
  (tSeq (tIfS (tOr (tNot (tB (tF (sp_is_count c) E0 (tCons (tOp (uIx c.K) (tVar 1) (tC (.int 1))) (tCons (tC (.int 0)) (tCons (tOp uSub (tCB (uLen c.K) (tCons (tOp (uIx c.K) (tVar 0) (tC (.int 0))) tNil)) (tC (.int 1))) tNil)))))) (tNot (tB (tIsTy c.K (tOp (uIx c.K) (tVar 1) (tC (.int 2))) "tuple")))) (tRet (tC (.bl false))) tNext)
  (tRet (tAndV (tChain uLe uLe (tC (.int 1)) (tCB (uLen c.K) (tCons (tOp (uIx c.K) (tVar 1) (tC (.int 2))) tNil)) (tOp uSub (tCB (uLen c.K) (tCons (tOp (uIx c.K) (tVar 0) (tC (.int 0))) tNil)) (tOp (uIx c.K) (tVar 1) (tC (.int 1))))) (tCB (rAll c.K) (tCons (tLc (iTup c.K (tOp (uIx c.K) (tVar 1) (tC (.int 2)))) (gName 2) tYes (tF (sp_is_cell c) E0 (tCons (tVar 2) tNil)) [2]) tNil))))))
abbrev N_is_change : List Str := ["page", "thing", "cell"]

def t_page_texts (c : Ctx) (E : XK) : TS :=
  (tSeq (tDrop (tF (sp_need_page c) E (tCons (tVar 0) tNil)))
  (tRet (tLc (iList c.K (tVar 0)) (gName 2) tYes (tBM c.K "str" u_rstrip (tM1 (u_join c.K) (tC (.str ⟨#[]⟩)) (tLc (iList c.K (tVar 2)) (gName 1) tYes (tOp (uIx c.K) (tVar 1) (tC (.int 0))) [1])) (tCons (tC (.str ⟨#[32]⟩)) tNil)) [2])))
abbrev N_page_texts : List Str := ["page", "cell", "row"]

def t_changes (c : Ctx) (E : XK) : TS :=
  (tSeq (tDrop (tF (sp_need_page c) E (tCons (tVar 0) tNil)))
  (tSeq (tDrop (tF (sp_need_page c) E (tCons (tVar 1) tNil)))
  (tSeq (tDrop (tF (sp_need c) E (tCons (tAndV (tOp (uEq c.K) (tCB (uLen c.K) (tCons (tVar 0) tNil)) (tCB (uLen c.K) (tCons (tVar 1) tNil))) (tOp (uEq c.K) (tCB (uLen c.K) (tCons (tOp (uIx c.K) (tVar 0) (tC (.int 0))) tNil)) (tCB (uLen c.K) (tCons (tOp (uIx c.K) (tVar 1) (tC (.int 0))) tNil)))) tNil)))
  (tSeq (tAsg (tLst tNil) (gName 2))
  (tSeq (tFor (iEnum c.K (tCons (tVar 1) tNil)) (gTup c.K 2 (gCons (gName 3) (gCons (gName 4) gNil))) (tSeq (tAsg (tC (.int 0)) (gName 5))
  (tWhile (tTest (tOp uLt (tVar 5) (tCB (uLen c.K) (tCons (tVar 4) tNil)))) (tSeq (tAsg (tVar 5) (gName 6))
  (tSeq (tWhile (tAnd (tTest (tOp uLt (tVar 6) (tCB (uLen c.K) (tCons (tVar 4) tNil)))) (tTest (tOp (uNe c.K) (tOp (uIx c.K) (tVar 4) (tVar 6)) (tOp (uIx c.K) (tOp (uIx c.K) (tVar 0) (tVar 3)) (tVar 6))))) (tAsg (tOp (uAdd c.K) (tVar 6) (tC (.int 1))) (gName 6)))
  (tSeq (tIfS (tTest (tOp uGt (tVar 6) (tVar 5))) (tDrop (tBM c.K "list" rAppend (tVar 2) (tCons (tTup (tCons (tVar 3) (tCons (tVar 5) (tCons (tCB (uTuple c.K) (tCons (tSl (uSl c.K) (tVar 4) (tPart (tVar 5)) (tPart (tVar 6))) tNil)) tNil)))) tNil))) tNext)
  (tAsg (tOp (uAdd c.K) (tVar 6) (tC (.int 1))) (gName 5))))))))
  (tRet (tVar 2)))))))
abbrev N_changes : List Str := ["page", "other", "found", "at", "row", "column", "end"]

def t_painted (c : Ctx) (E : XK) : TS :=
  (tSeq (tDrop (tF (sp_need_page c) E (tCons (tVar 0) tNil)))
  (tSeq (tDrop (tF (sp_need c) E (tCons (tAndV (tIsTy c.K (tVar 1) "list") (tCB (rAll c.K) (tCons (tLc (iList c.K (tVar 1)) (gName 2) tYes (tF (sp_is_change c) E0 (tCons (tVar 0) (tCons (tVar 2) tNil))) [2]) tNil))) tNil)))
  (tSeq (tAsg (tLc (iList c.K (tVar 0)) (gName 4) tYes (tCB (uList c.K) (tCons (tVar 4) tNil)) [4]) (gName 3))
  (tSeq (tFor (iList c.K (tVar 1)) (gTup c.K 3 (gCons (gName 5) (gCons (gName 6) (gCons (gName 7) gNil)))) (tAsg (tOp (uAdd c.K) (tOp (uAdd c.K) (tSl (uSl c.K) (tOp (uIx c.K) (tVar 3) (tVar 5)) tNoPart (tPart (tVar 6))) (tCB (uList c.K) (tCons (tVar 7) tNil))) (tSl (uSl c.K) (tOp (uIx c.K) (tVar 3) (tVar 5)) (tPart (tOp (uAdd c.K) (tVar 6) (tCB (uLen c.K) (tCons (tVar 7) tNil)))) tNoPart)) (gSub (tVar 3) (tVar 5) rSetL)))
  (tRet (tVar 3))))))
abbrev N_painted : List Str := ["page", "some", "one", "found", "row", "at", "column", "cells"]

section
variable {c : Ctx}
theorem rd_page_texts : RD N_page_texts (t_page_texts c) (sp_page_texts c) := by
  rintro vs H Q E ⟨v, d, F, L, rfl, hd, hsm, W, bad, kk⟩
  unfold t_page_texts
  walk_at "r"
  exact ⟨v, d, F, L, rfl, hd, hsm, W, fun z => absurd (z.symm.trans bad) (by decide), fun _ => kk⟩
theorem cntD_int {d : PyData} {a b : Int} (h : cntD d a b = true) : ∃ n : Int, d = .int n ∧ a ≤ n ∧ n ≤ b := by
  match d, h with
  | .int n, h =>
    have h' : (decide (a ≤ n) && decide (n ≤ b)) = true := h
    simp only [Bool.and_eq_true, decide_eq_true_eq] at h'
    exact ⟨n, rfl, h'⟩
theorem rd_is_change : RD N_is_change (t_is_change c) (sp_is_change c) := by
  rintro vs H Q E ⟨vp, rows, ds0, v, d, F, L, rfl, hp, h0, hn, er0, hd, hsm, W, kk⟩
  obtain ⟨p, xs, rfl, hs, ha⟩ := lst_view hp
  have hln := dpAll_len ha
  have g0 := dpAll_get ha 0 h0
  rw [er0] at g0
  obtain ⟨p0, xs0, ev0, hs0, ha0⟩ := lst_view g0
  have hl0 := dpAll_len ha0
  unfold t_is_change
  walk_at "r"
  refine l_isD hd W (kit_tup d) ?_
  by_cases ht : ∃ ds, d = .tuple ds
  case neg =>
    have e1 : isTupD d = false := by
      cases d with
      | tuple ds => exact absurd ⟨ds, rfl⟩ ht
      | _ => rfl
    rw [e1]
    walk_at "r"
    refine wT rfl ?_
    walk_at "r"
    refine wT rfl ?_
    walk_at "r"
    have e : isChangeD rows.length ds0.length d = false := by
      cases d with
      | tuple ds => exact absurd ⟨ds, rfl⟩ ht
      | _ => rfl
    rw [e] at kk
    exact kk F H (Same.refl F) W
  obtain ⟨ds, rfl⟩ := ht
  obtain ⟨q, ys, rfl, hq, hb⟩ := tup_view hd
  have hlb := dpAll_len hb
  walk_at "r"
  refine wF rfl ?_
  walk_at "r"
  refine l_lenT (W.gr.sqT hq) ?_
  walk_at "r"
  by_cases h3 : ds.length = 3
  case neg =>
    refine wT (by rw [hlb]; simp; omega) ?_
    walk_at "r"
    refine wT rfl ?_
    walk_at "r"
    have e : isChangeD rows.length ds0.length (.tuple ds) = false := by
      match ds, h3 with
      | [], _ => rfl
      | [_], _ => rfl
      | [_, _], _ => rfl
      | [_, _, x], h => exact absurd rfl h
      | _ :: _ :: x :: _ :: _, _ => cases x <;> rfl
    rw [e] at kk
    exact kk F H (Same.refl F) W
  obtain ⟨d0, d1, d2, rfl⟩ := three_of h3
  obtain ⟨y0, y1, y2, rfl⟩ := three_of (hlb.trans h3)
  cases hb with | cons b0 hb => cases hb with | cons b1 hb => cases hb with | cons b2 hb =>
  refine wF rfl ?_
  walk_at "r"
  refine l_ixT (W.gr.sqT hq) (by rfl) ?_
  walk_at "r"
  refine l_lenL (W.gr.sqL hs) ?_
  rw [hln]
  walk_at "r"
  refine ⟨_, _, _, rfl, (cnt_of_dp b0).1.gr W.gr, ?_⟩
  rw [(cnt_of_dp b0).2]
  have ec : ∀ cs, isChangeD rows.length ds0.length (.tuple [d0, d1, .tuple cs]) = (cntD d0 0 ((rows.length : Int) - 1) && (cntD d1 0 ((ds0.length : Int) - 1) && (decide (1 ≤ (cs.length : Int)) && decide ((cs.length : Int) ≤ (ds0.length : Int) - intD d1) && cs.all isCellD))) := fun _ => rfl
  have en : isTupD d2 = false → isChangeD rows.length ds0.length (.tuple [d0, d1, d2]) = false := fun z => by
    cases d2 with
    | tuple cs => cases z
    | _ => rfl
  cases h1 : cntD d0 0 ((rows.length : Int) - 1) with
  | false =>
    walk_at "r"
    refine wT rfl ?_
    walk_at "r"
    have e : isChangeD rows.length ds0.length (.tuple [d0, d1, d2]) = false := by
      by_cases z : ∃ cs, d2 = .tuple cs
      · obtain ⟨cs, rfl⟩ := z; rw [ec, h1, Bool.false_and]
      · exact en (by cases d2 with
          | tuple cs => exact absurd ⟨cs, rfl⟩ z
          | _ => rfl)
    rw [e] at kk
    exact kk F H (Same.refl F) W
  | true =>
  walk_at "r"
  refine wF rfl ?_
  walk_at "r"
  refine l_ixT (W.gr.sqT hq) (by rfl) ?_
  walk_at "r"
  refine g_ixL (n := 0) (W.gr.sqL hs) (by rw [hln]; exact h0) ?_
  rw [ev0]
  walk_at "r"
  refine l_lenL (W.gr.sqL hs0) ?_
  rw [hl0]
  walk_at "r"
  refine ⟨_, _, _, rfl, (cnt_of_dp b1).1.gr W.gr, ?_⟩
  rw [(cnt_of_dp b1).2]
  cases h2 : cntD d1 0 ((ds0.length : Int) - 1) with
  | false =>
    walk_at "r"
    refine wT rfl ?_
    walk_at "r"
    have e : isChangeD rows.length ds0.length (.tuple [d0, d1, d2]) = false := by
      by_cases z : ∃ cs, d2 = .tuple cs
      · obtain ⟨cs, rfl⟩ := z; rw [ec, h2, Bool.false_and, Bool.and_false]
      · exact en (by cases d2 with
          | tuple cs => exact absurd ⟨cs, rfl⟩ z
          | _ => rfl)
    rw [e] at kk
    exact kk F H (Same.refl F) W
  | true =>
  walk_at "r"
  refine wF rfl ?_
  walk_at "r"
  refine l_ixT (W.gr.sqT hq) (by rfl) ?_
  refine l_isD b2 W (kit_tup d2) ?_
  cases ht2 : isTupD d2 with
  | false =>
    walk_at "r"
    refine wT rfl ?_
    walk_at "r"
    rw [en ht2] at kk
    exact kk F H (Same.refl F) W
  | true =>
  obtain ⟨cs, rfl⟩ : ∃ cs, d2 = .tuple cs := by
    cases d2 with
    | tuple cs => exact ⟨cs, rfl⟩
    | _ => cases ht2
  obtain ⟨p2, zs, rfl, hz, hc⟩ := tup_view b2
  have hlc := dpAll_len hc
  obtain ⟨n1, rfl, hn1, hn2⟩ := cntD_int h2
  cases b1
  have hsm2 : smB (.tuple cs) = true := (sm_tup hsm).2 _ (by simp)
  rw [ec, h1, h2, Bool.true_and, Bool.true_and] at kk
  walk_at "r"
  refine wF rfl ?_
  walk_at "r"
  refine l_ixT (W.gr.sqT hq) (by rfl) ?_
  walk_at "r"
  refine l_lenT (W.gr.sqT hz) ?_
  rw [hlc]
  walk_at "r"
  by_cases hc1 : 1 ≤ (cs.length : Int)
  case neg =>
    refine wF (decide_eq_false hc1) ?_
    walk_at "r"
    rw [decide_eq_false hc1, Bool.false_and, Bool.false_and] at kk
    exact kk F H (Same.refl F) W
  refine wT (decide_eq_true hc1) ?_
  rw [decide_eq_true hc1, Bool.true_and] at kk
  walk_at "r"
  refine g_ixL (n := 0) (W.gr.sqL hs) (by rw [hln]; exact h0) ?_
  rw [ev0]
  walk_at "r"
  refine l_lenL (W.gr.sqL hs0) ?_
  rw [hl0]
  walk_at "r"
  refine l_ixT (W.gr.sqT hq) (by rfl) ?_
  walk_at "r"
  by_cases hc2 : (cs.length : Int) ≤ (ds0.length : Int) - n1
  case neg =>
    refine wF (decide_eq_false hc2) ?_
    rw [show intD (.int n1) = n1 from rfl, decide_eq_false hc2, Bool.false_and] at kk
    exact kk F H (Same.refl F) W
  refine wT (decide_eq_true hc2) ?_
  rw [show intD (.int n1) = n1 from rfl, decide_eq_true hc2, Bool.true_and] at kk
  walk_at "r"
  refine l_ixT (W.gr.sqT hq) (by rfl) ?_
  refine x_itup' (W.gr.sqT hz) ?_
  refine x_allc (F := F) (p := fun i => isCellD (cs.getD i .none)) (ItOk.tup hz) W (by rw [hlc]; exact (sm_tup hsm2).1) (fun d i F' H' QQ hi s W' kq => ?_) gm_name (fun F1 H1 e1 W1 => ?_)
  · refine ⟨wipe1, ?_⟩
    have hi' : i < cs.length := by rw [← hlc]; exact hi
    walk_at "r"
    exact ⟨_, _, F', _, rfl, (Gr.of s).dp (dpAll_get hc i hi'), getD_sm (sm_tup hsm2).2 hi', W', fun F2 H2 e2 W2 => kq F2 H2 e2 W2⟩
  rw [hlc, all_getD]
  exact kk F1 H1 e1 W1
theorem rd_changes : RD N_changes (t_changes c) (sp_changes c) := by
  rintro vs H Q E ⟨v, w, d, e, F, L, rfl, hd, hsd, he, hse, W, bad, kk⟩
  unfold t_changes
  walk_at "r"
  refine ⟨v, d, F, L, rfl, hd, hsd, W, fun p1 F1 H1 e1 W1 => ?_, fun _ => kk⟩
  walk_at "r"
  refine ⟨w, e, F1, L, rfl, (Gr.of e1).dp he, hse, W1, fun p2 F2 H2 e2 W2 => ?_, fun _ F2 H2 e2 W2 => kk F2 H2 (e1.trans e2) W2⟩
  have bad' : ¬ (rowsD d = rowsD e ∧ wideD d = wideD e) := by
    rintro ⟨h1, h2⟩
    have z : (!(isPageD d && isPageD e && decide (rowsD d = rowsD e) && decide (wideD d = wideD e))) = true := bad
    rw [p1, p2, decide_eq_true h1, decide_eq_true h2] at z
    cases z
  obtain ⟨rows, ds0, rfl, h0, er0, h00⟩ := isPage_view p1
  obtain ⟨rowz, dz0, rfl, k0, kr0, k00⟩ := isPage_view p2
  have g12 := Gr.of (e1.trans e2)
  obtain ⟨p, xs, rfl, hs, ha⟩ := lst_view (g12.dp hd)
  have hln := dpAll_len ha
  have g0 := dpAll_get ha 0 h0
  rw [er0] at g0
  obtain ⟨p0, xs0, ev0, hs0, ha0⟩ := lst_view g0
  have hl0 := dpAll_len ha0
  obtain ⟨q, ys, rfl, hq, hb⟩ := lst_view (g12.dp he)
  have kln := dpAll_len hb
  have f0 := dpAll_get hb 0 k0
  rw [kr0] at f0
  obtain ⟨q0, ys0, fv0, hq0, hb0⟩ := lst_view f0
  have kl0 := dpAll_len hb0
  walk_at "r"
  refine l_lenL (W2.gr.sqL hs) ?_
  walk_at "r"
  refine l_lenL (W2.gr.sqL hq) ?_
  rw [hln, kln]
  have no : ∀ b : Bool, b = (decide (rows.length = rowz.length) && decide (ds0.length = dz0.length)) → ∃ b' : Bool, [V.bl b] = [.bl b'] ∧ (b' = true → False) ∧ (b' = false → E (.ref c.cBadPage) none H2) := fun b hb => ⟨b, rfl, fun z => by
    rw [hb, Bool.and_eq_true, decide_eq_true_eq, decide_eq_true_eq] at z
    refine bad' ⟨z.1, ?_⟩
    show lenD (rows.getD 0 .none) = lenD (rowz.getD 0 .none)
    rw [er0, kr0]; exact z.2, fun _ => kk F2 H2 (e1.trans e2) W2⟩
  walk_at "r"
  have di : ∀ a b : Nat, decide ((a : Int) = (b : Int)) = decide (a = b) := fun a b => by
    rw [Bool.eq_iff_iff, decide_eq_true_eq, decide_eq_true_eq]
    exact Int.ofNat_inj
  by_cases e0 : rows.length = rowz.length
  case neg =>
    refine wF (by rw [di]; exact decide_eq_false e0) ?_
    walk_at "r"
    exact ⟨false, rfl, fun z => (nomatch z), fun _ => kk F2 H2 (e1.trans e2) W2⟩
  refine wT (by rw [di]; exact decide_eq_true e0) ?_
  walk_at "r"
  refine g_ixL (n := 0) (W2.gr.sqL hs) (by rw [hln]; exact h0) ?_
  rw [ev0]
  walk_at "r"
  refine l_lenL (W2.gr.sqL hs0) ?_
  rw [hl0]
  walk_at "r"
  refine g_ixL (n := 0) (W2.gr.sqL hq) (by rw [kln]; exact k0) ?_
  rw [fv0]
  walk_at "r"
  refine l_lenL (W2.gr.sqL hq0) ?_
  rw [kl0]
  walk_at "r"
  rw [di]
  obtain ⟨b', h1, h2, h3⟩ := no (decide (ds0.length = dz0.length)) (by rw [decide_eq_true e0, Bool.true_and])
  exact ⟨b', h1, fun z => (h2 z).elim, h3⟩
theorem rd_painted : RD N_painted (t_painted c) (sp_painted c) := by
  rintro vs H Q E ⟨v, w, d, e, F, L, rfl, hd, hsd, he, hse, W, bad, kk⟩
  unfold t_painted
  walk_at "r"
  refine ⟨v, d, F, L, rfl, hd, hsd, W, fun p1 F1 H1 e1 W1 => ?_, fun _ => kk⟩
  obtain ⟨rows, ds0, rfl, h0, er0, h00⟩ := isPage_view p1
  have bad' : (isListD e && (cellsD e).all (isChangeD rows.length ds0.length)) = false := by
    have z : (!(isPageD (.list rows) && isListD e && (cellsD e).all (isChangeD rows.length (lenD (rows.getD 0 .none))))) = true := bad
    rw [p1, Bool.true_and, er0] at z
    exact Bool.not_eq_true' _ ▸ z
  walk_at "r"
  refine l_isD ((Gr.of e1).dp he) W1 (kit_list e) ?_
  cases hle : isListD e with
  | false =>
    walk_at "r"
    exact ⟨false, rfl, fun z => (nomatch z), fun _ => kk F1 H1 e1 W1⟩
  | true =>
  obtain ⟨es, rfl⟩ := list_of_isListD hle
  rw [hle, Bool.true_and] at bad'
  obtain ⟨q, ys, rfl, hq, hb⟩ := lst_view ((Gr.of e1).dp he)
  have hlb := dpAll_len hb
  walk_at "r"
  refine wT rfl ?_
  walk_at "r"
  refine x_ilist' (W1.gr.sqL hq) ?_
  refine x_allc (F := F1) (p := fun i => isChangeD rows.length ds0.length (es.getD i .none)) (ItOk.list hq) W1 (by rw [hlb]; exact (sm_list hse).1) (fun d i F' H' QQ hi s W' kq => ?_) gm_name (fun F2 H2 e2 W2 => ?_)
  · refine ⟨wipe1, ?_⟩
    have hi' : i < es.length := by rw [← hlb]; exact hi
    walk_at "r"
    exact ⟨_, rows, ds0, _, _, F', _, rfl, (Gr.of (e1.trans s)).dp hd, h0, (sm_list hsd).1, er0, (Gr.of s).dp (dpAll_get hb i hi'), getD_sm (sm_list hse).2 hi', W', fun F3 H3 e3 W3 => kq F3 H3 e3 W3⟩
  rw [hlb, all_getD]
  have bad'' : es.all (isChangeD rows.length ds0.length) = false := bad'
  rw [bad'']
  walk_at "r"
  exact ⟨false, rfl, fun z => (nomatch z), fun _ => kk F2 H2 (e1.trans e2) W2⟩
end
end Ss
/-! ## Tapes: changes at a tick that is none; told refusals, one by one -/
namespace Ss
open PySem PySem.Spec PyProof.Rows L2
open Ss in
local macro_rules | `(tactic| walk_at "fg") => `(tactic| first | with_reducible exact fsTape_g0 | with_reducible exact fsTape_g1 | with_reducible exact fsTape_g2 | with_reducible exact fsScreen_g0 | with_reducible exact fsScreen_g1 | with_reducible exact fsScreen_g2 | with_reducible exact fsScreen_g3 | with_reducible exact fsScreen_g4 | with_reducible exact fsScreen_g5 | with_reducible exact fsScreen_g6 | with_reducible exact fsScreen_g7 | with_reducible exact fsScreen_g8 | with_reducible exact fsScreen_g9 | with_reducible exact fsScreen_g10 | with_reducible exact fsScreen_g11 | with_reducible exact fsScreen_g12 | with_reducible exact fsScreen_g13)
open Ss in
local macro_rules | `(tactic| walk_at "r") => `(tactic| repeat (first
  | with_reducible refine x_seq ?_ | with_reducible refine x_asg ?_ | with_reducible refine x_var rfl ?_ | with_reducible refine x_c ?_ | with_reducible refine x_op ?_ | with_reducible refine x_name ?_ | with_reducible refine x_gcons ?_ | with_reducible refine x_gnil ?_
  | with_reducible refine x_cons ?_ | with_reducible refine x_nil ?_ | with_reducible refine x_cb ?_ | with_reducible refine x_ifs ?_ | with_reducible refine x_test ?_ | with_reducible refine x_bl ?_
  | with_reducible refine g_addNN ?_ | with_reducible refine g_addNL ?_ | with_reducible refine g_addLN ?_ | with_reducible refine l_addI ?_ | with_reducible refine l_subI ?_ | with_reducible refine g_ltNL ?_ | with_reducible refine l_ltI ?_ | with_reducible refine l_leI ?_ | with_reducible refine l_gtI ?_ | with_reducible refine l_geI ?_ | with_reducible refine l_eqX ?_ | with_reducible refine l_neX ?_ | with_reducible refine g_eqNL ?_ | with_reducible refine l_eqII ?_ | with_reducible refine l_neII ?_ | with_reducible refine l_eq rfl ?_ | with_reducible refine l_ne rfl ?_
  | with_reducible refine x_fld ?_ | with_reducible refine x_ret ?_ | with_reducible refine x_drop ?_ | with_reducible refine x_next ?_ | with_reducible refine x_tup ?_ | with_reducible refine x_lst ?_ | with_reducible refine x_f ?_ | with_reducible refine x_o ?_ | with_reducible refine x_n ?_
  | with_reducible refine x_bm ?_ | with_reducible refine x_bm0 ?_ | with_reducible refine x_m1 ?_ | with_reducible refine x_m0 ?_ | with_reducible refine x_isstr ?_ | with_reducible refine x_tystr ?_ | with_reducible refine x_sl ?_ | with_reducible refine x_part ?_ | with_reducible refine x_part' ?_ | with_reducible refine x_nopart ?_
  | with_reducible refine x_sfld ?_ | with_reducible refine x_if ?_ | with_reducible refine x_isty ?_ | with_reducible refine x_chain ?_ | with_reducible refine x_andV ?_ | with_reducible refine x_orV ?_ | with_reducible refine x_notV ?_ | with_reducible refine x_B ?_ | with_reducible refine x_and ?_ | with_reducible refine x_or ?_ | with_reducible refine x_not ?_ | with_reducible refine x_tru ?_ | with_reducible refine x_yes ?_
  | with_reducible refine x_un ?_ | with_reducible refine x_neg ?_ | with_reducible refine x_par ?_ | with_reducible refine x_par' ?_ | with_reducible refine x_retN ?_ | with_reducible refine x_brk ?_ | with_reducible refine x_cont ?_ | with_reducible refine x_rz ?_
  | with_reducible refine l_leS ?_ | with_reducible refine l_ltS ?_ | with_reducible refine l_inX ?_ | with_reducible refine l_niX ?_ | with_reducible refine l_inS ?_ | with_reducible refine l_niS ?_ | with_reducible refine l_count ?_ | with_reducible refine l_ord ?_ | with_reducible refine l_max ?_ | with_reducible refine l_min ?_ | with_reducible refine l_intI ?_ | with_reducible refine l_intB ?_ | with_reducible refine l_is ?_ | with_reducible refine l_isn ?_
  | with_reducible refine g_modNL (by decide) ?_ | with_reducible refine g_divNL (by decide) (by decide) ?_ | with_reducible refine l_modI (by decide) ?_ | with_reducible refine x_for ?_ | with_reducible refine x_lc ?_ | with_reducible refine x_ilist ?_ | with_reducible refine x_itup ?_ | with_reducible refine x_istr ?_ | with_reducible refine x_istr' ?_ | with_reducible refine x_irng1 ?_ | with_reducible refine x_irng2 ?_
  | (with_reducible refine x_get (by first | assumption | exact Hold.get0 (by assumption) | exact Hold.get1 (by assumption)) (by assumption) (by assumption) (by walk_at "fg") ?_)
  | (with_reducible refine x_ao (by first | assumption | exact Hold.get0 (by assumption) | exact Hold.get1 (by assumption)) (by kernel_rfl) ?_)
  | with_reducible refine x_ienum ?_ | with_reducible refine x_izip ?_ | with_reducible refine x_chain3 ?_
  | (with_reducible refine x_par2 ?_)
  | (with_reducible refine x_par3 ?_) | (with_reducible refine x_par3' ?_)))
open Ss in
local macro_rules | `(tactic| walk_at "lit") => `(tactic| repeat (first
  | with_reducible exact lit_non | with_reducible exact lit_bl | with_reducible exact lit_int | with_reducible exact lit_str | with_reducible exact lit_neg | with_reducible exact lits_nil
  | with_reducible exact lit_num (num_var rfl) | with_reducible exact lit_var rfl (by assumption)
  | with_reducible refine lits_cons ?_ ?_ | with_reducible refine lit_tup ?_ (Nat.le_of_ble_eq_true rfl) | with_reducible refine lit_lst ?_ (Nat.le_of_ble_eq_true rfl) | with_reducible refine litL_lst ?_ (Nat.le_of_ble_eq_true rfl)))
def sp_Tape_changes_at (c : Ctx) : Sp := fun vs H Q E => ∃ (a : Addr) (C : TapeC) (S : Tape) (x : V) (F : Hp) (L : List (Addr × HO)), vs = [.ref a, x] ∧ CntArg c F x ∧ TapeAt c F C S ∧ Hold F (tapeL c a C L) H ∧
  cntOk x 0 (S.length : Nat) = false ∧ TapeTell a c C F L (E (.ref c.cBadTick) none)
def t_Tape_changes_at (c : Ctx) (E : XK) : TS :=
  (tSeq (tDrop (tO c.cTape "need_tick" (sp_Tape_need_tick c) E (tVar 0) (tCons (tVar 1) tNil)))
  (tRet (tF (sp_changes c) E (tCons (tO c.cScreen "page" (sp_Screen_page c) E0 (tO c.cTape "screen_behind" (sp_Tape_screen_behind c) E (tVar 0) (tCons (tOp uSub (tVar 1) (tC (.int 1))) tNil)) tNil) (tCons (tO c.cScreen "page" (sp_Screen_page c) E0 (tO c.cTape "screen_behind" (sp_Tape_screen_behind c) E (tVar 0) (tCons (tVar 1) tNil)) tNil) tNil)))))
abbrev N_Tape_changes_at : List Str := ["self", "tick"]

section
variable {c : Ctx} {σ σ0 : L2.St} {F H : Hp} {L : List (Addr × HO)} {QQ : VK}
theorem rd_Tape_changes_at (R : FTape c) : RD N_Tape_changes_at (t_Tape_changes_at c) (sp_Tape_changes_at c) := by
  have cl := R.cl
  rintro vs H Q E ⟨a, C, S, x, F, L, rfl, cx, A, W, nk, k1⟩
  unfold t_Tape_changes_at
  walk_at "r"
  exact ⟨a, C, S, x, F, L, rfl, cx, A, W, fun ok => (by rw [nk] at ok; cases ok), fun _ => k1⟩
/-- ("refused", s) is no other than that -/
theorem told_ne1 {s : List Nat} {q : Addr} (hs : ∀ x ∈ s, x < 1114112) (W : Hold F L H) (hq : F q = some (.tup [.str sRefused, .str (T s)])) (k : ∀ F3 H3, Same F F3 → Hold F3 L H3 → QQ (.bl false) H3) :
    aTup [.str sRefused, .str (T s)] H fun v H1 => uNe c.K (.ref q) v H1 QQ :=
  n_tupF W (sz rfl) fun p F1 H1 e1 h1 W1 => by
    have sh := refused_sh hs
    refine l_neD (W1.gr.dp (refused_dp (e1 _ _ hq))) (W1.gr.dp (refused_dp h1)) (sh.shaped (by decide)) (sh.shaped (by decide)) ?_
    rw [sh.eqv]
    exact k F1 H1 e1 W1
def okTextD : PyData → Bool
  | .str z => okText (.str z)
  | _ => false
def okWordD : PyData → Bool
  | .str z => okWord (.str z)
  | _ => false
theorem txt_of_dp {F : Hp} {v : V} {d : PyData} (h : Dp c.K F v d) (hs : smB d = true) : TextArg c F v ∧ okText v = okTextD d ∧ okWord v = okWordD d := by
  have t := ty_of_dp h
  cases h with
  | non => exact ⟨.inr ⟨⟨_, t, (by decide +kernel : kitB "NoneType" "str" = some false)⟩, fun z e => by cases e⟩, rfl, rfl⟩
  | bl b => exact ⟨.inr ⟨⟨_, t, (by decide +kernel : kitB "bool" "str" = some false)⟩, fun z e => by cases e⟩, rfl, rfl⟩
  | int i => exact ⟨.inr ⟨⟨_, t, (by decide +kernel : kitB "int" "str" = some false)⟩, fun z e => by cases e⟩, rfl, rfl⟩
  | str x => exact ⟨.inl ⟨x.cps.toList, by rw [← Str_T], by have z := sm_str hs; rw [Str_T x, T_len] at z; exact z⟩, rfl, rfl⟩
  | lst hs ha => exact ⟨.inr ⟨⟨_, t, (by decide +kernel : kitB "list" "str" = some false)⟩, fun z e => by cases e⟩, rfl, rfl⟩
  | tup hs ha => exact ⟨.inr ⟨⟨_, t, (by decide +kernel : kitB "tuple" "str" = some false)⟩, fun z e => by cases e⟩, rfl, rfl⟩
theorem lit_mulX {F0 : Hp} {l : List Nat} {k : Nat} (hk : k ≤ 100000) (hl : l.length ≤ 100) : Lit c.K σ F0 (tOp (uMul c.K) (tC (.str (T l))) (tC (.int (k : Nat)))) (.str (T (List.replicate k l).flatten)) := fun F H L Q _ W kk =>
  x_op (x_c (x_c (l_mulX hk hl (kk _ F H (Same.refl F) (.str _) W))))
/-- Tape(w, h, m) -/
theorem x_newTape {E : XK} {w h m : Nat} {z1 z2 z3 : Int} (i1 : z1 = (w : Nat)) (i2 : z2 = (h : Nat)) (i3 : z3 = (m : Nat)) (W : Hold F L H) (hw : 2 ≤ w ∧ w ≤ 60) (hh : 2 ≤ h ∧ h ≤ 40) (hm : m ≤ 200)
    (kk : ∀ a C F' H', Same F F' → TapeAt c F' C (Tape.new w h m) → Hold F' (tapeL c a C L) H' → QQ (.ref a) H') : aN c.cTape (sp_Tape_init c) E [.int z1, .int z2, .int z3] H QQ := by
  subst i1 i2 i3
  refine x_an W fun a dx H2 W2 => ?_
  refine ⟨a, dx, _, _, _, F, L, rfl, .nat, .nat, .nat, W2, fun w' h' m' e1 e2 e3 _ _ _ C F3 H3 s3 A3 W3 => ⟨rfl, ?_⟩, fun z => absurd z (by rw [sizeOk_nat hw hh hm]; decide)⟩
  have a1 := nat_inj e1
  have a2 := nat_inj e2
  have a3 := nat_inj e3
  subst a1 a2 a3
  exact kk a C F3 H3 s3 A3 W3
theorem x_tape_bad {x y z : V} {E : XK} (cx : CntArg c F x) (cy : CntArg c F y) (cz : CntArg c F z) (W : Hold F L H) (h : sizeOk x y z = false) (k : ∀ H', Hold F L H' → E (.ref c.cBadSize) none H') : aN c.cTape (sp_Tape_init c) E [x, y, z] H QQ := by
  refine x_an W fun s dx H2 W2 => ⟨s, dx, x, y, z, F, L, rfl, cx, cy, cz, W2, fun w h' m ew eh em hw hh hm => absurd h ?_, fun _ H' W' => k H' W'.drop⟩
  subst ew eh em
  rw [sizeOk_nat hw hh hm]; decide
theorem plain_tape {a : Addr} {C : TapeC} (hL : ∀ y ∈ L, Plain y.2) : ∀ y ∈ tapeL c a C L, Plain y.2 := plain_cons trivial (plain_cons trivial (plain_cons trivial hL))
end
end Ss
/-! ## law k61 -/
namespace Ss
open PySem PySem.Spec PyProof.Rows L2
open Ss in
local macro_rules | `(tactic| walk_at "fg") => `(tactic| first | with_reducible exact fsTape_g0 | with_reducible exact fsTape_g1 | with_reducible exact fsTape_g2 | with_reducible exact fsScreen_g0 | with_reducible exact fsScreen_g1 | with_reducible exact fsScreen_g2 | with_reducible exact fsScreen_g3 | with_reducible exact fsScreen_g4 | with_reducible exact fsScreen_g5 | with_reducible exact fsScreen_g6 | with_reducible exact fsScreen_g7 | with_reducible exact fsScreen_g8 | with_reducible exact fsScreen_g9 | with_reducible exact fsScreen_g10 | with_reducible exact fsScreen_g11 | with_reducible exact fsScreen_g12 | with_reducible exact fsScreen_g13)
open Ss in
local macro_rules | `(tactic| walk_at "r") => `(tactic| repeat (first
  | with_reducible refine x_seq ?_ | with_reducible refine x_asg ?_ | with_reducible refine x_var rfl ?_ | with_reducible refine x_c ?_ | with_reducible refine x_op ?_ | with_reducible refine x_name ?_ | with_reducible refine x_gcons ?_ | with_reducible refine x_gnil ?_
  | with_reducible refine x_cons ?_ | with_reducible refine x_nil ?_ | with_reducible refine x_cb ?_ | with_reducible refine x_ifs ?_ | with_reducible refine x_test ?_ | with_reducible refine x_bl ?_
  | with_reducible refine g_addNN ?_ | with_reducible refine g_addNL ?_ | with_reducible refine g_addLN ?_ | with_reducible refine l_addI ?_ | with_reducible refine l_subI ?_ | with_reducible refine g_ltNL ?_ | with_reducible refine l_ltI ?_ | with_reducible refine l_leI ?_ | with_reducible refine l_gtI ?_ | with_reducible refine l_geI ?_ | with_reducible refine l_eqX ?_ | with_reducible refine l_neX ?_ | with_reducible refine g_eqNL ?_ | with_reducible refine l_eqII ?_ | with_reducible refine l_neII ?_ | with_reducible refine l_eq rfl ?_ | with_reducible refine l_ne rfl ?_
  | with_reducible refine x_fld ?_ | with_reducible refine x_ret ?_ | with_reducible refine x_drop ?_ | with_reducible refine x_next ?_ | with_reducible refine x_tup ?_ | with_reducible refine x_lst ?_ | with_reducible refine x_f ?_ | with_reducible refine x_o ?_ | with_reducible refine x_n ?_
  | with_reducible refine x_bm ?_ | with_reducible refine x_bm0 ?_ | with_reducible refine x_m1 ?_ | with_reducible refine x_m0 ?_ | with_reducible refine x_isstr ?_ | with_reducible refine x_tystr ?_ | with_reducible refine x_sl ?_ | with_reducible refine x_part ?_ | with_reducible refine x_part' ?_ | with_reducible refine x_nopart ?_
  | with_reducible refine x_sfld ?_ | with_reducible refine x_if ?_ | with_reducible refine x_isty ?_ | with_reducible refine x_chain ?_ | with_reducible refine x_andV ?_ | with_reducible refine x_orV ?_ | with_reducible refine x_notV ?_ | with_reducible refine x_B ?_ | with_reducible refine x_and ?_ | with_reducible refine x_or ?_ | with_reducible refine x_not ?_ | with_reducible refine x_tru ?_ | with_reducible refine x_yes ?_
  | with_reducible refine x_un ?_ | with_reducible refine x_neg ?_ | with_reducible refine x_par ?_ | with_reducible refine x_par' ?_ | with_reducible refine x_retN ?_ | with_reducible refine x_brk ?_ | with_reducible refine x_cont ?_ | with_reducible refine x_rz ?_
  | with_reducible refine l_leS ?_ | with_reducible refine l_ltS ?_ | with_reducible refine l_inX ?_ | with_reducible refine l_niX ?_ | with_reducible refine l_inS ?_ | with_reducible refine l_niS ?_ | with_reducible refine l_count ?_ | with_reducible refine l_ord ?_ | with_reducible refine l_max ?_ | with_reducible refine l_min ?_ | with_reducible refine l_intI ?_ | with_reducible refine l_intB ?_ | with_reducible refine l_is ?_ | with_reducible refine l_isn ?_
  | with_reducible refine g_modNL (by decide) ?_ | with_reducible refine g_divNL (by decide) (by decide) ?_ | with_reducible refine l_modI (by decide) ?_ | with_reducible refine x_for ?_ | with_reducible refine x_lc ?_ | with_reducible refine x_ilist ?_ | with_reducible refine x_itup ?_ | with_reducible refine x_istr ?_ | with_reducible refine x_istr' ?_ | with_reducible refine x_irng1 ?_ | with_reducible refine x_irng2 ?_
  | (with_reducible refine x_get (by first | assumption | exact Hold.get0 (by assumption) | exact Hold.get1 (by assumption)) (by assumption) (by assumption) (by walk_at "fg") ?_)
  | (with_reducible refine x_ao (by first | assumption | exact Hold.get0 (by assumption) | exact Hold.get1 (by assumption)) (by kernel_rfl) ?_)
  | with_reducible refine x_ienum ?_ | with_reducible refine x_izip ?_ | with_reducible refine x_chain3 ?_
  | (with_reducible refine x_par2 ?_)
  | (with_reducible refine x_par3 ?_) | (with_reducible refine x_par3' ?_)))
open Ss in
local macro_rules | `(tactic| walk_at "lit") => `(tactic| repeat (first
  | with_reducible exact lit_non | with_reducible exact lit_bl | with_reducible exact lit_int | with_reducible exact lit_str | with_reducible exact lit_neg | with_reducible exact lits_nil
  | with_reducible exact lit_num (num_var rfl) | with_reducible exact lit_var rfl (by assumption)
  | with_reducible refine lits_cons ?_ ?_ | with_reducible refine lit_tup ?_ (Nat.le_of_ble_eq_true rfl) | with_reducible refine lit_lst ?_ (Nat.le_of_ble_eq_true rfl) | with_reducible refine litL_lst ?_ (Nat.le_of_ble_eq_true rfl)))
def t_law (c : Ctx) (E : XK) : TS :=
  (tSeq (tFor (iRng1 (tCons (tCB uMax (tCons (tC (.int 1)) (tCons (tCB uMin (tCons (tC (.int 4)) (tCons (tCB (uLen c.K) (tCons (tVar 0) tNil)) tNil))) tNil))) tNil)) (gName 1) (tSeq (tAsg (tF (sp__law_drawn c) E0 (tCons (tF (sp__law_cell c) E0 (tCons (tVar 0) (tCons (tVar 1) tNil))) (tCons (tVar 1) tNil))) (gName 2))
  (tSeq (tAsg (tLst (tCons (tTup (tCons (tC (.int 1)) (tCons (tC (.int 5)) (tCons (tC (.int 0)) tNil)))) (tCons (tTup (tCons (tC (.int 61)) (tCons (tC (.int 5)) (tCons (tC (.int 0)) tNil)))) (tCons (tTup (tCons (tC (.int 5)) (tCons (tC (.int 1)) (tCons (tC (.int 0)) tNil)))) (tCons (tTup (tCons (tC (.int 5)) (tCons (tC (.int 41)) (tCons (tC (.int 0)) tNil)))) (tCons (tTup (tCons (tC (.int 5)) (tCons (tC (.int 5)) (tCons (tUn (rU fun i => .int (-i)) (tC (.int 1))) tNil)))) (tCons (tTup (tCons (tC (.int 5)) (tCons (tC (.int 5)) (tCons (tC (.int 201)) tNil)))) (tCons (tTup (tCons (tC .non) (tCons (tC (.int 5)) (tCons (tC (.int 0)) tNil)))) tNil)))))))) (gName 3))
  (tSeq (tFor (iList c.K (tOp (uAdd c.K) (tVar 3) (tLst (tCons (tTup (tCons (tC (.int 5)) (tCons (tC (.int 5)) (tCons (tC (.bl true)) tNil)))) tNil)))) (gTup c.K 3 (gCons (gName 4) (gCons (gName 5) (gCons (gName 6) gNil)))) (tIfS (tTest (tOp (uNe c.K) (LamX.tLam c.tabs (TT1 (bads7 c)) (fun E => (tN c.cTape (sp_Tape_init c) E (tCons (tVar 4) (tCons (tVar 5) (tCons (tVar 6) tNil)))))) (tTup (tCons (tC (.str ⟨#[114, 101, 102, 117, 115, 101, 100]⟩)) (tCons (tC (.str ⟨#[66, 97, 100, 83, 105, 122, 101]⟩)) tNil))))) (tRet (tC (.bl false))) tNext))
  (tSeq (tAsg (tN c.cTape (sp_Tape_init c) E0 (tCons (tC (.int 5)) (tCons (tC (.int 5)) (tCons (tC (.int 200)) tNil)))) (gName 7))
  (tSeq (tFor (iList c.K (tLst (tCons (tUn (rU fun i => .int (-i)) (tC (.int 1))) (tCons (tC (.int 1001)) (tCons (tC .non) (tCons (tC (.bl true)) (tCons (tC (.str ⟨#[49]⟩)) tNil))))))) (gName 8) (tIfS (tTest (tOp (uNe c.K) (LamX.tLam c.tabs (TT1 (bads7 c)) (fun E => (tO c.cTape "record" (sp_Tape_record c) E (tVar 7) (tCons (tVar 8) (tCons (tC .non) tNil))))) (tTup (tCons (tC (.str ⟨#[114, 101, 102, 117, 115, 101, 100]⟩)) (tCons (tC (.str ⟨#[66, 97, 100, 84, 105, 99, 107]⟩)) tNil))))) (tRet (tC (.bl false))) tNext))
  (tSeq (tFor (iList c.K (tLst (tCons (tC .non) (tCons (tC (.int 5)) (tCons (tOp (uMul c.K) (tC (.str ⟨#[126, 126, 126]⟩)) (tC (.int 1400))) (tCons (tC (.str ⟨#[116, 97, 98, 9]⟩)) tNil)))))) (gName 8) (tIfS (tTest (tOp (uNe c.K) (LamX.tLam c.tabs (TT1 (bads7 c)) (fun E => (tO c.cTape "record" (sp_Tape_record c) E (tVar 7) (tCons (tOp uMod (tVar 2) (tC (.int 1001))) (tCons (tVar 8) tNil))))) (tTup (tCons (tC (.str ⟨#[114, 101, 102, 117, 115, 101, 100]⟩)) (tCons (tC (.str ⟨#[66, 97, 100, 84, 101, 120, 116]⟩)) tNil))))) (tRet (tC (.bl false))) tNext))
  (tSeq (tIfS (tOr (tTest (tOp (uNe c.K) (tO c.cTape "records" (sp_Tape_records c) E0 (tVar 7) tNil) (tLst tNil))) (tTest (tOp (uNe c.K) (LamX.tLam c.tabs (TT1 (bads7 c)) (fun E => (tO c.cTape "undo" (sp_Tape_undo c) E (tVar 7) tNil))) (tTup (tCons (tC (.str ⟨#[114, 101, 102, 117, 115, 101, 100]⟩)) (tCons (tC (.str ⟨#[78, 111, 116, 104, 105, 110, 103]⟩)) tNil)))))) (tRet (tC (.bl false))) tNext)
  (tSeq (tFor (iRng1 (tCons (tC (.int 60)) tNil)) (gName 9) (tDrop (tO c.cTape "record" (sp_Tape_record c) E0 (tVar 7) (tCons (tC (.int 1000)) (tCons (tC (.str ⟨#[97]⟩)) tNil)))))
  (tSeq (tIfS (tOr (tTest (tOp (uNe c.K) (LamX.tLam c.tabs (TT1 (bads7 c)) (fun E => (tO c.cTape "record" (sp_Tape_record c) E (tVar 7) (tCons (tC (.int 0)) (tCons (tC (.str ⟨#[97]⟩)) tNil))))) (tTup (tCons (tC (.str ⟨#[114, 101, 102, 117, 115, 101, 100]⟩)) (tCons (tC (.str ⟨#[66, 97, 100, 84, 105, 99, 107]⟩)) tNil))))) (tTest (tOp (uNe c.K) (tO c.cTape "length" (sp_Tape_length c) E0 (tVar 7) tNil) (tC (.int 60000))))) (tRet (tC (.bl false))) tNext)
  (tSeq (tFor (iList c.K (tLst (tCons (tUn (rU fun i => .int (-i)) (tC (.int 1))) (tCons (tC (.int 60001)) (tCons (tC .non) (tCons (tC (.bl true)) (tCons (tC (.str ⟨#[48]⟩)) tNil))))))) (gName 8) (tSeq (tAsg (tLst (tCons (LamX.tLam c.tabs (TT1 (bads7 c)) (fun E => (tO c.cTape "page_at" (sp_Tape_page_at c) E (tVar 7) (tCons (tVar 8) tNil)))) tNil)) (gName 10))
  (tSeq (tDrop (tBM c.K "list" rAppend (tVar 10) (tCons (LamX.tLam c.tabs (TT1 (bads7 c)) (fun E => (tO c.cTape "cursor_at" (sp_Tape_cursor_at c) E (tVar 7) (tCons (tVar 8) tNil)))) tNil)))
  (tSeq (tDrop (tBM c.K "list" rAppend (tVar 10) (tCons (LamX.tLam c.tabs (TT1 (bads7 c)) (fun E => (tO c.cTape "changes_at" (sp_Tape_changes_at c) E (tVar 7) (tCons (tVar 8) tNil)))) tNil)))
  (tIfS (tTest (tOp (uNe c.K) (tVar 10) (tOp (uMul c.K) (tLst (tCons (tTup (tCons (tC (.str ⟨#[114, 101, 102, 117, 115, 101, 100]⟩)) (tCons (tC (.str ⟨#[66, 97, 100, 84, 105, 99, 107]⟩)) tNil))) tNil)) (tC (.int 3))))) (tRet (tC (.bl false))) tNext)))))
  (tSeq (tFor (iList c.K (tLst (tCons (tC .non) (tCons (tC (.str ⟨#[]⟩)) (tCons (tC (.int 5)) (tCons (tOp (uMul c.K) (tC (.str ⟨#[97]⟩)) (tC (.int 21))) (tCons (tC (.str ⟨#[97, 10]⟩)) (tCons (tC (.str ⟨#[9]⟩)) tNil)))))))) (gName 8) (tIfS (tTest (tOp (uNe c.K) (LamX.tLam c.tabs (TT1 (bads7 c)) (fun E => (tO c.cTape "first_with" (sp_Tape_first_with c) E (tVar 7) (tCons (tVar 8) tNil)))) (tTup (tCons (tC (.str ⟨#[114, 101, 102, 117, 115, 101, 100]⟩)) (tCons (tC (.str ⟨#[66, 97, 100, 84, 101, 120, 116]⟩)) tNil))))) (tRet (tC (.bl false))) tNext))
  (tSeq (tIfS (tOr (tTest (tOp (uNe c.K) (tO c.cTape "first_with" (sp_Tape_first_with c) E0 (tVar 7) (tCons (tOp (uMul c.K) (tC (.str ⟨#[97]⟩)) (tC (.int 5))) tNil)) (tTup (tCons (tC (.int 5000)) (tCons (tC (.int 0)) (tCons (tC (.int 0)) tNil)))))) (tTest (tOp (uNe c.K) (tO c.cTape "first_with" (sp_Tape_first_with c) E0 (tVar 7) (tCons (tC (.str ⟨#[32]⟩)) tNil)) (tTup (tCons (tC (.int 0)) (tCons (tC (.int 0)) (tCons (tC (.int 0)) tNil))))))) (tRet (tC (.bl false))) tNext)
  (tIfS (tTest (tOp uIsNot (tO c.cTape "first_with" (sp_Tape_first_with c) E0 (tVar 7) (tCons (tC (.str ⟨#[98]⟩)) tNil)) (tC .non))) (tRet (tC (.bl false))) tNext))))))))))))))
  (tRet (tC (.bl true))))
abbrev N_law : List Str := ["_law_script", "_law_k", "_law_more", "_law_some", "_law_wide", "_law_high", "_law_most", "_law_tape", "_law_bad", "_law_j", "_law_rows"]

abbrev szD1 : List PyData := [.tuple [.int 1, .int 5, .int 0], .tuple [.int 61, .int 5, .int 0], .tuple [.int 5, .int 1, .int 0], .tuple [.int 5, .int 41, .int 0], .tuple [.int 5, .int 5, .int (-1)], .tuple [.int 5, .int 5, .int 201], .tuple [.none, .int 5, .int 0]]
abbrev szD2 : List PyData := [.tuple [.int 5, .int 5, .bool true]]
def szOkD : PyData → Bool
  | .tuple [a, b, e] => cntD a 2 60 && cntD b 2 40 && cntD e 0 200
  | _ => true
theorem szOkD_three {d : PyData} (h : szOkD d = false) : ∃ a b e, d = .tuple [a, b, e] ∧ (cntD a 2 60 && cntD b 2 40 && cntD e 0 200) = false := by
  match d, h with
  | .tuple [a, b, e], h => exact ⟨a, b, e, rfl, h⟩
abbrev tkD (n : Int) : List PyData := [.int (-1), .int n, .none, .bool true, .str ⟨#[49]⟩]
abbrev tlD (n : Int) : List PyData := [.int (-1), .int n, .none, .bool true, .str ⟨#[48]⟩]
abbrev txD : List PyData := [.none, .int 5, .str (T (List.replicate 1400 [126, 126, 126]).flatten), .str ⟨#[116, 97, 98, 9]⟩]
abbrev wdD : List PyData := [.none, .str ⟨#[]⟩, .int 5, .str (T (List.replicate 21 [97]).flatten), .str ⟨#[97, 10]⟩, .str ⟨#[9]⟩]
theorem szD_bad : (szD1 ++ szD2).all (fun d => !szOkD d) = true := by decide +kernel
theorem tkD_bad : (tkD 1001).all (fun d => !cntD d 0 1000 && smB d) = true := by decide +kernel
theorem tlD_bad : (tlD 60001).all (fun d => !cntD d 0 60000 && smB d) = true := by decide +kernel
theorem txD_bad : txD.all (fun d => !okTextD d && smB d) = true := by decide +kernel
theorem wdD_bad : wdD.all (fun d => !okWordD d && smB d) = true := by decide +kernel
theorem bad_get {l : List PyData} {p q : PyData → Bool} (h : l.all (fun d => !p d && q d) = true) {i : Nat} (hi : i < l.length) : p (l.getD i .none) = false ∧ q (l.getD i .none) = true := by
  have z := List.all_eq_true.mp h _ (getD_mem (d := .none) hi)
  rw [Bool.and_eq_true] at z
  exact ⟨by simpa using z.1, z.2⟩
abbrev bSize : List Nat := [66, 97, 100, 83, 105, 122, 101]
abbrev bTick : List Nat := [66, 97, 100, 84, 105, 99, 107]
abbrev bText : List Nat := [66, 97, 100, 84, 101, 120, 116]
abbrev bNothing : List Nat := [78, 111, 116, 104, 105, 110, 103]
theorem sSize : ("BadSize" : Str) = T bSize := by decide +kernel
theorem sTick : ("BadTick" : Str) = T bTick := by decide +kernel
theorem sText : ("BadText" : Str) = T bText := by decide +kernel
theorem sNothing : ("Nothing" : Str) = T bNothing := by decide +kernel
theorem b_lt {l : List Nat} (h : l.all (fun x => decide (x < 1114112)) = true) : ∀ x ∈ l, x < 1114112 := fun x hx => by simpa using List.all_eq_true.mp h x hx
def tapeN (n : Nat) : Tape := ⟨5, 5, 200, (List.range n).map fun i => ((i + 1) * 1000, [97]), []⟩
theorem first_a : (tapeN 60).firstWith [97, 97, 97, 97, 97] = some (5000, 0, 0) := by decide +kernel
theorem first_gap : (tapeN 60).firstWith [32] = some (0, 0, 0) := by decide +kernel
theorem first_b : (tapeN 60).firstWith [98] = none := by decide +kernel
theorem tapeN_len (n : Nat) : (tapeN n).length = n * 1000 := by
  cases n with
  | zero => rfl
  | succ n => exact Tape.length_snoc (rs := (List.range n).map fun i => ((i + 1) * 1000, [97])) (r := ((n + 1) * 1000, [97])) (by show (List.range (n + 1)).map _ = _; rw [List.range_succ, List.map_append]; rfl)
theorem tapeN_rec (n : Nat) : (tapeN n).record 1000 [97] = tapeN (n + 1) := by
  unfold Tape.record
  rw [tapeN_len]
  show (⟨5, 5, 200, (List.range n).map (fun i => ((i + 1) * 1000, [97])) ++ [(n * 1000 + 1000, [97])], []⟩ : Tape) = ⟨5, 5, 200, (List.range (n + 1)).map (fun i => ((i + 1) * 1000, [97])), []⟩
  rw [List.range_succ, List.map_append]
  show (⟨5, 5, 200, _ ++ [(n * 1000 + 1000, [97])], []⟩ : Tape) = ⟨5, 5, 200, _ ++ [((n + 1) * 1000, [97])], []⟩
  rw [Nat.succ_mul]
theorem tapeN_rows (n : Nat) : (tapeN n).rows.length = n := by show (List.map _ _).length = n; simp
theorem ok_a : okText (.str ⟨#[97]⟩) = true := by decide +kernel
theorem cnt_no {x : V} {t : Nat} {n : Int} (h : cntOk x 0 n = false) (e : x = .int (t : Nat)) (ht : (t : Int) ≤ n) : False := by
  subst e
  have z : (decide ((0 : Int) ≤ (t : Nat)) && decide (((t : Nat) : Int) ≤ n)) = false := h
  rw [decide_eq_true (by omega), decide_eq_true ht] at z
  cases z
theorem tape_out {F H : Hp} {t : Addr} {C : TapeC} {x : Addr × HO} {c : Ctx} (W : Hold F (tapeL c t C [x]) H) : Hold F (x :: tapeL c t C []) H := W.perm (List.perm_append_comm (l₁ := [_, _, _]) (l₂ := [x]))
theorem tape_in {F H : Hp} {t : Addr} {C : TapeC} {x : Addr × HO} {c : Ctx} (W : Hold F (x :: tapeL c t C []) H) : Hold F (tapeL c t C [x]) H := W.perm (List.perm_append_comm (l₁ := [x]) (l₂ := [_, _, _]))
section
variable {c : Ctx}
theorem rd_law (RT : FTape c) : RD N_law (t_law c) (sp_law c) := by
  have cl := RT.cl
  rintro vs H Q E ⟨a, ns, F, rfl, hs, hl, hb, tb, W, kk⟩
  unfold t_law
  walk_at "r"
  refine l_lenL (W.gr.sqL hs) ?_
  walk_at "r"
  refine x_irng1' (by omega) (by omega) ?_
  have hn4 : (max 1 (min 4 (((ns.map V.int).length : Nat) : Int))).toNat ≤ 4 := by omega
  refine x_forOk (F := F) ItOk.rng (fun i σ H' => ∃ o1 o2 o3 o4 o5 o6 o7 o8 o9 o10 F', σ = [some (.ref a), o1, o2, o3, o4, o5, o6, o7, o8, o9, o10] ∧ Gr F F' ∧ LamX.Tabs c.tabs F' ∧ Hold F' [] H')
    (fun i σ H' _ ⟨_, _, _, _, _, _, _, _, _, _, F', _, g, _, W'⟩ => g.trans W'.gr) ⟨none, none, none, none, none, none, none, none, none, none, F, rfl, Gr.refl F, tb, W⟩ ?_ ?_
  · rintro k σ H' hk ⟨o1, o2, o3, o4, o5, o6, o7, o8, o9, o10, F', rfl, g, tb', W'⟩
    have ek : (0 : Int) + (k : Int) = (k : Int) := Int.zero_add _
    rw [ek]
    walk_at "r"
    refine ⟨a, ns, k, F', [], rfl, by omega, g.sqL hs, hl, W', fun F1 H1 e1 W1 => ?_⟩
    walk_at "r"
    refine ⟨_, k, rfl, cell_big hb (by omega), by omega, ?_⟩
    have hm := drawn_small (cellOf ns k) k
    generalize drawn (cellOf ns k) k = m at hm ⊢
    have g1 : Gr F F1 := g.trans (Gr.of e1)
    have tb1 : LamX.Tabs c.tabs F1 := tb'.ext e1
    refine x_name (x_seq (x_asg ?_))
    refine (show LitL c.K _ F1 _ szD1 by walk_at "lit") F1 H1 _ _ (Same.refl F1) W1 fun p2 xs2 F2 H2 e2 h2 a2 W2 => ?_
    refine x_name (x_seq (x_for (x_ilist ?_)))
    refine (litL_add (litL_var rfl h2 a2) (show LitL c.K _ F2 _ szD2 by walk_at "lit") (by decide) : LitL c.K _ F2 _ (szD1 ++ szD2)) F2 H2 _ _ (Same.refl F2) W2 fun p3 xs3 F3 H3 e3 h3 a3 W3 => ?_
    have g3 : Gr F F3 := g1.trans (Gr.of (e2.trans e3))
    have tb3 : LamX.Tabs c.tabs F3 := tb1.ext (e2.trans e3)
    refine x_ilist' (W3.gr.sqL (sq_of h3)) ?_
    refine x_forOk (F := F3) (ItOk.list (sq_of h3)) (fun i σ H' => ∃ o4 o5 o6 o7 o8 o9 o10 F', σ = [some (.ref a), some (.int (k : Int)), some (.int (m : Nat)), some (.ref p2), o4, o5, o6, o7, o8, o9, o10] ∧ Gr F3 F' ∧ LamX.Tabs c.tabs F' ∧ Hold F' [] H')
      (fun i σ H' _ ⟨_, _, _, _, _, _, _, F', _, g, _, W'⟩ => g.trans W'.gr) ⟨_, _, _, _, _, _, _, F3, rfl, Gr.refl F3, tb3, W3⟩ ?_ ?_
    · rintro i σ H4 hi ⟨o4, o5, o6, o7, o8, o9, o10, F4, rfl, g4, tb4, W4⟩
      have hi' : i < (szD1 ++ szD2).length := by rw [← dpAll_len a3]; exact hi
      have hv := g4.dp (dpAll_get a3 i hi')
      have hbad : szOkD ((szD1 ++ szD2).getD i .none) = false := by
        have z := List.all_eq_true.mp szD_bad _ (getD_mem (d := .none) hi')
        simpa using z
      generalize (szD1 ++ szD2).getD i .none = d at hv hbad
      obtain ⟨da, db, de, rfl, hf⟩ := szOkD_three hbad
      obtain ⟨p, vs, ev, hp, hpa⟩ := tup_view hv
      obtain ⟨va, vb, ve, rfl⟩ := three_of (dpAll_len hpa)
      rw [ev]
      cases hpa with | cons q1 hpa => cases hpa with | cons q2 hpa => cases hpa with | cons q3 hpa =>
      refine x_gtup (W4.gr.sqT hp) rfl ?_
      walk_at "r"
      refine told_ref (x := (c.cBadSize, "BadSize")) mem_bads7.2.2.1 W4 plain_nil tb4 (fun F7 H7 E Q' g7 W7 kr => ?_) fun q F8 H8 g8 tb8 _ hq W8 => ?_
      · walk_at "r"
        refine x_tape_bad ((cnt_of_dp (g7.dp q1)).1) ((cnt_of_dp (g7.dp q2)).1) ((cnt_of_dp (g7.dp q3)).1) W7 ?_ fun H' W' => kr F7 H' (Same.refl F7) W'
        show (cntOk va 2 60 && cntOk vb 2 40 && cntOk ve 0 200) = false
        rw [(cnt_of_dp q1).2, (cnt_of_dp q2).2, (cnt_of_dp q3).2]
        exact hf
      walk_at "r"
      rw [show ((c.cBadSize, ("BadSize" : Str)) : Addr × Str).2 = T bSize from sSize] at hq
      refine told_ne1 (s := bSize) (b_lt rfl) W8 hq fun F9 H9 e9 W9 => ?_
      walk_at "r"
      refine wF rfl ?_
      walk_at "r"
      exact ⟨_, _, _, _, _, _, _, F9, rfl, g4.trans (g8.trans (Gr.of e9)), tb8.ext e9, W9⟩
    rintro σ H4 ⟨o4, o5, o6, o7, o8, o9, o10, F4, rfl, g4, tb4, W4⟩
    walk_at "r"
    refine x_newTape (w := 5) (h := 5) (m := 200) rfl rfl rfl W4 (by decide) (by decide) (by decide) fun t C F5 H5 e5 A5 W5 => ?_
    have eT : Tape.new 5 5 200 = tapeN 0 := rfl
    rw [eT] at A5
    have g5 : Gr F F5 := g3.trans (g4.trans (Gr.of e5))
    have tb5 : LamX.Tabs c.tabs F5 := tb4.ext e5
    clear a2 a3 h2 h3 W W1 W2 W3 W4 W'
    refine x_name (x_seq (x_for (x_ilist ?_)))
    refine (show LitL c.K _ F5 _ (tkD 1001) by walk_at "lit") F5 H5 _ _ (Same.refl F5) W5 fun p6 xs6 F6 H6 e6 h6 a6 W6 => ?_
    refine x_ilist' (W6.gr.sqL (sq_of h6)) ?_
    have A6 := A5.gr (Gr.of e6)
    have g6 := g5.trans (Gr.of e6)
    have tb6 := tb5.ext e6
    refine x_forOk (F := F6) (ItOk.list (sq_of h6)) (fun i σ H' => ∃ o3 o4 o5 o6 o8 o9 o10 F', σ = [some (.ref a), some (.int (k : Int)), some (.int (m : Nat)), o3, o4, o5, o6, some (.ref t), o8, o9, o10] ∧ Gr F6 F' ∧ LamX.Tabs c.tabs F' ∧ Hold F' (tapeL c t C []) H')
      (fun i σ H' _ ⟨_, _, _, _, _, _, _, F', _, g, _, W'⟩ => g.trans W'.gr) ⟨_, _, _, _, _, _, _, F6, rfl, Gr.refl F6, tb6, W6⟩ ?_ ?_
    · rintro i σ I4 hi ⟨o3, o4, o5, o6, o8, o9, o10, G4, rfl, j4, ub4, V4⟩
      have hi' : i < ((tkD 1001)).length := by rw [← dpAll_len a6]; exact hi
      have hv := j4.dp (dpAll_get a6 i hi')
      obtain ⟨hbad, hsm⟩ := bad_get tkD_bad hi'
      generalize ((tkD 1001)).getD i .none = d at hv hbad hsm
      generalize xs6.getD i .non = v at hv ⊢
      have B4 := A6.gr j4
      walk_at "r"
      refine told_ref (x := (c.cBadTick, "BadTick")) mem_bads7.2.2.2.2.2.1 V4 (plain_tape plain_nil) ub4 (fun F7 H7 E Q' g7 W7 kr => ?_) fun q F8 H8 g8 tb8 _ hq W8 => ?_
      · walk_at "r"
        have hc : cntOk v 0 1000 = false := by rw [(cnt_of_dp hv).2]; exact hbad
        refine ⟨t, C, tapeN 0, v, _, F7, [], rfl, (cnt_of_dp (g7.dp hv)).1, (txt_of_dp (.non : Dp c.K F7 .non .none) rfl).1, B4.gr g7, W7, fun _ F' H' e W' => kr F' H' e W', fun z => ?_, fun t' l ex _ ht _ _ => (cnt_no hc ex (by omega)).elim⟩
        rw [hc] at z; cases z
      walk_at "r"
      rw [show ((c.cBadTick, ("BadTick" : Str)) : Addr × Str).2 = T bTick from sTick] at hq
      refine told_ne1 (s := bTick) (b_lt rfl) W8 hq fun F9 H9 e9 W9 => ?_
      walk_at "r"
      refine wF rfl ?_
      walk_at "r"
      exact ⟨_, _, _, _, _, _, _, F9, rfl, j4.trans (g8.trans (Gr.of e9)), tb8.ext e9, W9⟩
    rintro σ H7 ⟨o3, o4, o5, o6, o8, o9, o10, F7, rfl, g7', tb7, W7⟩
    have A7 := A6.gr g7'
    have g7 := g6.trans g7'
    clear a6 h6
    refine x_seq (x_for (x_ilist ?_))
    refine (show LitL c.K _ F7 _ txD by (walk_at "lit"; exact lit_mulX (l := [126, 126, 126]) (k := 1400) (by decide) (by decide); walk_at "lit")) F7 H7 _ _ (Same.refl F7) W7 fun p8 xs8 F8 H8 e8 h8 a8 W8 => ?_
    refine x_ilist' (W8.gr.sqL (sq_of h8)) ?_
    have A8 := A7.gr (Gr.of e8)
    have g8 := g7.trans (Gr.of e8)
    have tb8 := tb7.ext e8
    refine x_forOk (F := F8) (ItOk.list (sq_of h8)) (fun i σ H' => ∃ o3 o4 o5 o6 o8 o9 o10 F', σ = [some (.ref a), some (.int (k : Int)), some (.int (m : Nat)), o3, o4, o5, o6, some (.ref t), o8, o9, o10] ∧ Gr F8 F' ∧ LamX.Tabs c.tabs F' ∧ Hold F' (tapeL c t C []) H')
      (fun i σ H' _ ⟨_, _, _, _, _, _, _, F', _, g, _, W'⟩ => g.trans W'.gr) ⟨_, _, _, _, _, _, _, F8, rfl, Gr.refl F8, tb8, W8⟩ ?_ ?_
    · rintro i σ I4 hi ⟨o3, o4, o5, o6, o8, o9, o10, G4, rfl, j4, ub4, V4⟩
      have hi' : i < (txD).length := by rw [← dpAll_len a8]; exact hi
      have hv := j4.dp (dpAll_get a8 i hi')
      obtain ⟨hbad, hsm⟩ := bad_get txD_bad hi'
      generalize (txD).getD i .none = d at hv hbad hsm
      generalize xs8.getD i .non = v at hv ⊢
      have B4 := A8.gr j4
      walk_at "r"
      refine told_ref (x := (c.cBadText, "BadText")) mem_bads7.2.2.2.1 V4 (plain_tape plain_nil) ub4 (fun F7 H7 E Q' g7 W7 kr => ?_) fun q F8 H8 g8 tb8 _ hq W8 => ?_
      · walk_at "r"
        have hy : okText v = false := by rw [(txt_of_dp hv hsm).2.1]; exact hbad
        have hc : cntOk (.int ((m % 1001 : Nat) : Int)) 0 1000 = true := cntOk_nat (lo := 0) (hi := 1000) (Nat.zero_le _) (by have : m % 1001 < 1001 := Nat.mod_lt _ (by decide); omega)
        refine ⟨t, C, tapeN 0, _, v, F7, [], rfl, .nat, (txt_of_dp (g7.dp hv) hsm).1, B4.gr g7, W7, fun z => ?_, fun _ _ F' H' e W' => kr F' H' e W', fun t' l ex _ ht _ z => ?_⟩
        · rw [hc] at z; cases z
        · rw [hy] at z; cases z
      walk_at "r"
      rw [show ((c.cBadText, ("BadText" : Str)) : Addr × Str).2 = T bText from sText] at hq
      refine told_ne1 (s := bText) (b_lt rfl) W8 hq fun F9 H9 e9 W9 => ?_
      walk_at "r"
      refine wF rfl ?_
      walk_at "r"
      exact ⟨_, _, _, _, _, _, _, F9, rfl, j4.trans (g8.trans (Gr.of e9)), tb8.ext e9, W9⟩
    rintro σ H9 ⟨o3, o4, o5, o6, o8, o9, o10, F9, rfl, g9', tb9, W9⟩
    have A9 := A8.gr g9'
    have g9 := g8.trans g9'
    clear a8 h8
    walk_at "r"
    refine ⟨t, C, tapeN 0, F9, [], rfl, A9, W9, fun p8 I1 V1 => ?_⟩
    walk_at "r"
    refine n_lstF V1 (sz rfl) fun p9 G2 I2 i2 l2 V2 => ?_
    have ey : C.ys = [] := by
      have z := dpAll_len A9.rows
      exact List.length_eq_zero_iff.mp z
    have V2' : Hold G2 ((p8, .lst []) :: tapeL c t C []) I2 := by rw [ey] at V2; exact V2
    refine l_neD (d := .list []) (e := .list []) (.lst (sq_of V2'.get0) .nil) (.lst (sq_of (V2.old _ _ l2)) .nil) rfl rfl ?_
    walk_at "r"
    refine wF rfl ?_
    walk_at "r"
    refine told_ref (x := (c.cNothing, "Nothing")) mem_bads7.2.2.2.2.2.2 V2.drop (plain_tape plain_nil) (tb9.ext i2) (fun F7 H7 E Q' g7 W7 kr => ?_) fun q F8 H8 g8 tb8 _ hq W8 => ?_
    · walk_at "r"
      exact ⟨t, C, tapeN 0, F7, [], rfl, (A9.gr (Gr.of i2)).gr g7, W7, fun _ F' H' e W' => kr F' H' e W', fun z => absurd rfl z⟩
    walk_at "r"
    rw [show ((c.cNothing, ("Nothing" : Str)) : Addr × Str).2 = T bNothing from sNothing] at hq
    refine told_ne1 (s := bNothing) (b_lt rfl) W8 hq fun F9 H9 e9 W9 => ?_
    walk_at "r"
    refine wF rfl ?_
    have A10 := A9.gr ((Gr.of i2).trans (g8.trans (Gr.of e9)))
    have g10 := g9.trans ((Gr.of i2).trans (g8.trans (Gr.of e9)))
    have tb10 := tb8.ext e9
    walk_at "r"
    refine x_irng1' (by omega) (by omega) ?_
    refine x_forOk (F := F9) ItOk.rng (fun i σ H' => ∃ o3 o4 o5 o6 o8 o9 o10 C F', σ = [some (.ref a), some (.int (k : Int)), some (.int (m : Nat)), o3, o4, o5, o6, some (.ref t), o8, o9, o10] ∧ Gr F9 F' ∧ LamX.Tabs c.tabs F' ∧ TapeAt c F' C (tapeN i) ∧ Hold F' (tapeL c t C []) H')
      (fun i σ H' _ ⟨_, _, _, _, _, _, _, _, F', _, g, _, _, W'⟩ => g.trans W'.gr) ⟨_, _, _, _, _, _, _, C, F9, rfl, Gr.refl F9, tb10, A10, W9⟩ ?_ ?_
    · rintro i σ I4 hi ⟨o3, o4, o5, o6, o8, o9, o10, C4, G4, rfl, j4, ub4, B4, V4⟩
      have hi60 : i < 60 := by omega
      walk_at "r"
      have hc : cntOk (.int 1000) 0 1000 = true := rfl
      refine ⟨t, C4, tapeN i, _, _, G4, [], rfl, .inl ⟨_, rfl⟩, .inl ⟨[97], rfl, by decide⟩, B4, V4, fun z => ?_, fun _ z => ?_, fun t' l ex ey _ _ _ C5 G5 I5 i5 B5 V5 => ?_⟩
      · rw [hc, tapeN_rows, decide_eq_true hi60] at z; cases z
      · rw [ok_a] at z; cases z
      have e1 : (1000 : Nat) = t' := by have z := V.int.inj ex; omega
      have e2 : [97] = l := T_inj.mp (V.str.inj ey)
      subst e1 e2
      rw [tapeN_rec] at B5
      walk_at "r"
      exact ⟨_, _, _, _, _, _, _, C5, G5, rfl, j4.trans (Gr.of i5), ub4.ext i5, B5, V5⟩
    rintro σ H11 ⟨o3, o4, o5, o6, o8, o9, o10, C6, F11, rfl, j6, tb11, A11, W11⟩
    have g11 := g10.trans j6
    rw [show (Int.toNat 60) = 60 from rfl] at A11
    walk_at "r"
    have eL : (((tapeN 60).length : Nat) : Int) = 60000 := by rw [tapeN_len]; rfl
    walk_at "r"
    refine told_ref (x := (c.cBadTick, "BadTick")) mem_bads7.2.2.2.2.2.1 W11 (plain_tape plain_nil) tb11 (fun F7 H7 E Q' g7 W7 kr => ?_) fun q F8 H8 g8 tb8 _ hq W8 => ?_
    · walk_at "r"
      refine ⟨t, C6, tapeN 60, _, _, F7, [], rfl, .inl ⟨_, rfl⟩, .inl ⟨[97], rfl, by decide⟩, A11.gr g7, W7, fun _ F' H' e W' => kr F' H' e W', fun z => ?_, fun _ _ _ _ _ z _ => ?_⟩
      · rw [tapeN_rows] at z; exact absurd z (by decide)
      · rw [tapeN_rows] at z; exact absurd z (by decide)
    walk_at "r"
    rw [show ((c.cBadTick, ("BadTick" : Str)) : Addr × Str).2 = T bTick from sTick] at hq
    refine told_ne1 (s := bTick) (b_lt rfl) W8 hq fun F9 H9 e9 W9 => ?_
    walk_at "r"
    refine wF rfl ?_
    walk_at "r"
    have A9 := A11.gr (g8.trans (Gr.of e9))
    refine ⟨t, C6, tapeN 60, F9, [], rfl, A9, W9, fun G1 I1 i1 V1 => ?_⟩
    rw [eL]
    walk_at "r"
    refine wF rfl ?_
    have A20 := A9.gr (Gr.of i1)
    have g20 := g11.trans (g8.trans ((Gr.of e9).trans (Gr.of i1)))
    have tb20 := (tb8.ext e9).ext i1
    have W20 := V1
    clear V1
    generalize G1 = F20 at i1 A20 g20 tb20 W20
    generalize I1 = H20 at W20 ⊢
    refine x_next (x_seq (x_for (x_ilist ?_)))
    refine (show LitL c.K _ F20 _ (tlD 60001) by walk_at "lit") F20 H20 _ _ (Same.refl F20) W20 fun p21 xs21 F21 H21 e21 h21 a21 W21 => ?_
    refine x_ilist' (W21.gr.sqL (sq_of h21)) ?_
    have A21 := A20.gr (Gr.of e21)
    have g21 := g20.trans (Gr.of e21)
    have tb21 := tb20.ext e21
    refine x_forOk (F := F21) (ItOk.list (sq_of h21)) (fun i σ H' => ∃ o3 o4 o5 o6 o8 o9 o10 F', σ = [some (.ref a), some (.int (k : Int)), some (.int (m : Nat)), o3, o4, o5, o6, some (.ref t), o8, o9, o10] ∧ Gr F21 F' ∧ LamX.Tabs c.tabs F' ∧ Hold F' (tapeL c t C6 []) H')
      (fun i σ H' _ ⟨_, _, _, _, _, _, _, F', _, g, _, W'⟩ => g.trans W'.gr) ⟨_, _, _, _, _, _, _, F21, rfl, Gr.refl F21, tb21, W21⟩ ?_ ?_
    · rintro i σ I4 hi ⟨o3, o4, o5, o6, o8, o9, o10, G4, rfl, j4, ub4, V4⟩
      have hi' : i < ((tlD 60001)).length := by rw [← dpAll_len a21]; exact hi
      have hv := j4.dp (dpAll_get a21 i hi')
      obtain ⟨hbad, hsm⟩ := bad_get tlD_bad hi'
      generalize ((tlD 60001)).getD i .none = d at hv hbad hsm
      generalize xs21.getD i .non = v at hv ⊢
      have B4 := A21.gr j4
      have hc : cntOk v 0 ((tapeN 60).length : Nat) = false := by rw [eL, (cnt_of_dp hv).2]; exact hbad
      have nok : ∀ n : Nat, v = .int (n : Nat) → n ≤ (tapeN 60).length → False := fun n ex hn => cnt_no hc ex (by omega)
      walk_at "r"
      refine told_first (x := (c.cBadTick, "BadTick")) mem_bads7.2.2.2.2.2.1 V4 (plain_tape plain_nil) ub4 (fun F7 H7 E Q' g7 W7 kr => ?_) fun D F5 H5 ys5 g5 tb5 hy5 W5 => ?_
      · walk_at "r"
        exact ⟨t, C6, tapeN 60, v, F7, [], rfl, (cnt_of_dp (g7.dp hv)).1, B4.gr g7, W7, fun _ F' H' e W' => kr F' H' e W', fun n ex hn => (nok n ex hn).elim⟩
      walk_at "r"
      refine x_tylst (sq_of W5.get0) ?_
      walk_at "r"
      refine told_next (n := 1) (x := (c.cBadTick, "BadTick")) mem_bads7.2.2.2.2.2.1 W5 (plain_tape plain_nil) tb5 hy5 (by decide) (fun F7 H7 E Q' g7 W7 kr => ?_) fun F6 H6 ys6 g6 tb6 hy6 W6 => ?_
      · walk_at "r"
        exact ⟨t, C6, tapeN 60, v, F7, [_], rfl, (cnt_of_dp ((g5.trans g7).dp hv)).1, B4.gr (g5.trans g7), tape_in W7, fun _ F' H' e W' => kr F' H' e (tape_out W'), fun n ex hn => (nok n ex hn).elim⟩
      walk_at "r"
      refine x_tylst (sq_of W6.get0) ?_
      walk_at "r"
      refine told_next (n := 2) (x := (c.cBadTick, "BadTick")) mem_bads7.2.2.2.2.2.1 W6 (plain_tape plain_nil) tb6 hy6 (by decide) (fun F7 H7 E Q' g7 W7 kr => ?_) fun F8 H8 ys8 g8 tb8 hy8 W8 => ?_
      · walk_at "r"
        exact ⟨t, C6, tapeN 60, v, F7, [_], rfl, (cnt_of_dp ((g5.trans (g6.trans g7)).dp hv)).1, B4.gr (g5.trans (g6.trans g7)), tape_in W7, hc, fun F' H' e W' => kr F' H' e (tape_out W')⟩
      walk_at "r"
      rw [sTick] at hy8
      refine told_ne (n := 3) (b_lt rfl) W8 hy8 (by decide) fun F9 H9 e9 W9 => ?_
      walk_at "r"
      refine wF rfl ?_
      walk_at "r"
      exact ⟨_, _, _, _, _, _, _, F9, rfl, j4.trans (g5.trans (g6.trans (g8.trans (Gr.of e9)))), tb8.ext e9, W9.drop⟩
    rintro σ H22 ⟨o3, o4, o5, o6, o8, o9, o10, F22, rfl, g22', tb22, W22⟩
    have A22 := A21.gr g22'
    have g22 := g21.trans g22'
    clear a21 h21
    refine x_seq (x_for (x_ilist ?_))
    refine (show LitL c.K _ F22 _ wdD by (walk_at "lit"; exact lit_mulX (l := [97]) (k := 21) (by decide) (by decide); walk_at "lit")) F22 H22 _ _ (Same.refl F22) W22 fun p23 xs23 F23 H23 e23 h23 a23 W23 => ?_
    refine x_ilist' (W23.gr.sqL (sq_of h23)) ?_
    have A23 := A22.gr (Gr.of e23)
    have g23 := g22.trans (Gr.of e23)
    have tb23 := tb22.ext e23
    refine x_forOk (F := F23) (ItOk.list (sq_of h23)) (fun i σ H' => ∃ o3 o4 o5 o6 o8 o9 o10 F', σ = [some (.ref a), some (.int (k : Int)), some (.int (m : Nat)), o3, o4, o5, o6, some (.ref t), o8, o9, o10] ∧ Gr F23 F' ∧ LamX.Tabs c.tabs F' ∧ Hold F' (tapeL c t C6 []) H')
      (fun i σ H' _ ⟨_, _, _, _, _, _, _, F', _, g, _, W'⟩ => g.trans W'.gr) ⟨_, _, _, _, _, _, _, F23, rfl, Gr.refl F23, tb23, W23⟩ ?_ ?_
    · rintro i σ I4 hi ⟨o3, o4, o5, o6, o8, o9, o10, G4, rfl, j4, ub4, V4⟩
      have hi' : i < (wdD).length := by rw [← dpAll_len a23]; exact hi
      have hv := j4.dp (dpAll_get a23 i hi')
      obtain ⟨hbad, hsm⟩ := bad_get wdD_bad hi'
      generalize (wdD).getD i .none = d at hv hbad hsm
      generalize xs23.getD i .non = v at hv ⊢
      have B4 := A23.gr j4
      walk_at "r"
      refine told_ref (x := (c.cBadText, "BadText")) mem_bads7.2.2.2.1 V4 (plain_tape plain_nil) ub4 (fun F7 H7 E Q' g7 W7 kr => ?_) fun q F8 H8 g8 tb8 _ hq W8 => ?_
      · walk_at "r"
        have hw : okWord v = false := by rw [(txt_of_dp hv hsm).2.2]; exact hbad
        refine ⟨t, C6, tapeN 60, v, F7, [], rfl, (txt_of_dp (g7.dp hv) hsm).1, B4.gr g7, W7, fun _ F' H' e W' => kr F' H' e W', fun l ex z => ?_⟩
        rw [hw] at z; cases z
      walk_at "r"
      rw [show ((c.cBadText, ("BadText" : Str)) : Addr × Str).2 = T bText from sText] at hq
      refine told_ne1 (s := bText) (b_lt rfl) W8 hq fun F9 H9 e9 W9 => ?_
      walk_at "r"
      refine wF rfl ?_
      walk_at "r"
      exact ⟨_, _, _, _, _, _, _, F9, rfl, j4.trans (g8.trans (Gr.of e9)), tb8.ext e9, W9⟩
    rintro σ H24 ⟨o3, o4, o5, o6, o8, o9, o10, F24, rfl, g24', tb24, W24⟩
    have A24 := A23.gr g24'
    have g24 := g23.trans g24'
    clear a23 h23
    walk_at "r"
    refine l_mulX (l := [97]) (k := 5) (by decide) (by decide) ?_
    walk_at "r"
    have ok5 : okWord (.str (T (List.replicate 5 [97]).flatten)) = true := by decide +kernel
    have ok32 : okWord (.str ⟨#[32]⟩) = true := by decide +kernel
    have ok98 : okWord (.str ⟨#[98]⟩) = true := by decide +kernel
    refine ⟨t, C6, tapeN 60, _, F24, [], rfl, .inl ⟨_, rfl, by decide⟩, A24, W24, fun z => absurd (z.symm.trans ok5) (by decide), fun l ex _ v1 G1 I1 i1 hv1 V1 => ?_⟩
    have el : (List.replicate 5 [97]).flatten = l := T_inj.mp (V.str.inj ex)
    subst el
    rw [show (List.replicate 5 [97]).flatten = [97, 97, 97, 97, 97] from rfl, first_a] at hv1
    walk_at "r"
    refine n_tupF V1 (sz rfl) fun p2 G2 I2 i2 l2 V2 => ?_
    have d2 : Dp c.K G2 (.ref p2) (.tuple [.int 5000, .int 0, .int 0]) := .tup (st_of l2) (.cons (.int _) (.cons (.int _) (.cons (.int _) .nil)))
    refine l_neD (d := .tuple [.int 5000, .int 0, .int 0]) (e := .tuple [.int 5000, .int 0, .int 0]) (V2.gr.dp ((Gr.of i2).dp hv1)) (V2.gr.dp d2) rfl rfl ?_
    walk_at "r"
    refine wF rfl ?_
    walk_at "r"
    have AG := (A24.gr (Gr.of i1)).gr (Gr.of i2)
    refine ⟨t, C6, tapeN 60, _, G2, [], rfl, .inl ⟨[32], rfl, by decide⟩, AG, V2, fun z => absurd (z.symm.trans ok32) (by decide), fun l ex _ v3 G3 I3 i3 hv3 V3 => ?_⟩
    have el : [32] = l := T_inj.mp (V.str.inj ex)
    subst el
    rw [first_gap] at hv3
    walk_at "r"
    refine n_tupF V3 (sz rfl) fun p4 G4 I4 i4 l4 V4 => ?_
    have d4 : Dp c.K G4 (.ref p4) (.tuple [.int 0, .int 0, .int 0]) := .tup (st_of l4) (.cons (.int _) (.cons (.int _) (.cons (.int _) .nil)))
    refine l_neD (d := .tuple [.int 0, .int 0, .int 0]) (e := .tuple [.int 0, .int 0, .int 0]) (V4.gr.dp ((Gr.of i4).dp hv3)) (V4.gr.dp d4) rfl rfl ?_
    walk_at "r"
    refine wF rfl ?_
    walk_at "r"
    have AG4 := (AG.gr (Gr.of i3)).gr (Gr.of i4)
    refine ⟨t, C6, tapeN 60, _, G4, [], rfl, .inl ⟨[98], rfl, by decide⟩, AG4, V4, fun z => absurd (z.symm.trans ok98) (by decide), fun l ex _ v5 G5 I5 i5 hv5 V5 => ?_⟩
    have el : [98] = l := T_inj.mp (V.str.inj ex)
    subst el
    rw [first_b] at hv5
    cases hv5
    walk_at "r"
    refine wF rfl ?_
    walk_at "r"
    have iS : Same F24 G5 := i1.trans (i2.trans (i3.trans (i4.trans i5)))
    exact ⟨_, _, _, _, _, _, _, _, _, _, G5, rfl, g24.trans (Gr.of iS), tb24.ext iS, V5.nil⟩
  · rintro σ H' ⟨o1, o2, o3, o4, o5, o6, o7, o8, o9, o10, F', rfl, g, tb', W'⟩
    walk_at "r"
    exact kk H'
end
end Ss
/-! ## the row's part, printed by row.py -/
namespace Ss
open PySem PySem.Spec PyProof.Rows L2
/-- what the top has made, as far as the defs ask it -/
structure Txt (c : Ctx) (mg : Str → Option Value) : Prop where
  b_ord : mg "ord" = none
  b_isinstance : mg "isinstance" = none
  b_str : mg "str" = none
  b_len : mg "len" = none
  b_all : mg "all" = none
  b_tuple : mg "tuple" = none
  b_int : mg "int" = none
  b_bool : mg "bool" = none
  b_zip : mg "zip" = none
  b_list : mg "list" = none
  b_enumerate : mg "enumerate" = none
  b_range : mg "range" = none
  b_max : mg "max" = none
  b_min : mg "min" = none
  b_sum : mg "sum" = none
  b_ValueError : mg "ValueError" = none
  g_BARRED : GlobV mg "BARRED" (v_BARRED c)
  g_GAP : GlobV mg "GAP" (v_GAP c)
  g_MOST_TEXT : GlobV mg "MOST_TEXT" (v_MOST_TEXT c)
  g_SMALL : GlobV mg "SMALL" (v_SMALL c)
  g_GREAT : GlobV mg "GREAT" (v_GREAT c)
  g_FIGURES : GlobV mg "FIGURES" (v_FIGURES c)
  g_MOST_FIGURES : GlobV mg "MOST_FIGURES" (v_MOST_FIGURES c)
  g_MOST_ARGUMENTS : GlobV mg "MOST_ARGUMENTS" (v_MOST_ARGUMENTS c)
  g_MOST_COLOUR : GlobV mg "MOST_COLOUR" (v_MOST_COLOUR c)
  g_MOST_MARKS : GlobV mg "MOST_MARKS" (v_MOST_MARKS c)
  g_BLANK : GlobV mg "BLANK" (v_BLANK c)
  g_LEAST_HIGH : GlobV mg "LEAST_HIGH" (v_LEAST_HIGH c)
  g_MOST_HIGH : GlobV mg "MOST_HIGH" (v_MOST_HIGH c)
  g_LEAST_WIDE : GlobV mg "LEAST_WIDE" (v_LEAST_WIDE c)
  g_MOST_WIDE : GlobV mg "MOST_WIDE" (v_MOST_WIDE c)
  g_MOST_KEPT : GlobV mg "MOST_KEPT" (v_MOST_KEPT c)
  g_PLAIN : GlobV mg "PLAIN" (v_PLAIN c)
  g_MOST_TICKS : GlobV mg "MOST_TICKS" (v_MOST_TICKS c)
  g_MOST_RECORDS : GlobV mg "MOST_RECORDS" (v_MOST_RECORDS c)
  g_MOST_WORD : GlobV mg "MOST_WORD" (v_MOST_WORD c)
  x_BadText : ErrX c.K mg "BadText" c.cBadText
  x_BadPage : ErrX c.K mg "BadPage" c.cBadPage
  x_BadSize : ErrX c.K mg "BadSize" c.cBadSize
  x_BadTick : ErrX c.K mg "BadTick" c.cBadTick
  x_Nothing : ErrX c.K mg "Nothing" c.cNothing
  x_BadPlace : ErrX c.K mg "BadPlace" c.cBadPlace
  x_BadPane : ErrX c.K mg "BadPane" c.cBadPane

section
variable {P : Program} {w : World} {c : Ctx} {mg : Str → Option Value} {base : Heap}
abbrev M_is_sign : List Str := ["sign"]
theorem sc_is_sign : FnScope M_is_sign ["sign"] (defScope st_is_sign) := ⟨rfl, rfl, rfl, by decide +kernel, rfl, by decide +kernel, by decide +kernel⟩
theorem ok_is_sign {f : Addr} {fd : FuncData} (F : Fun c.K "is_sign" "is_sign" st_is_sign f fd) (T : Txt c mg) (R : RD M_is_sign (t_is_sign c) (sp_is_sign c)) (Rl : ∀ vs H Q E, sp_is_sign c vs H Q E → vs.length = 1) : FnOk P w c.K mg base CX0 1 f fd ["sign"] (sp_is_sign c) := by
  have nd := sc_is_sign.nd
  refine F.ok sc_is_sign Rl (fun cdv A outer s H vs Q E hr h => ⟨t_is_sign c E, ?_, R vs H Q E h⟩)
  exact (pss_one (ps_ret (pe_or (pe_cmpR (oEq hr.units) (pv 0) (pe_gv T.g_GAP) (by first | rfl | exact nomark _)) (pe_one (pe_and (pe_chain oLe oLe (pe_sc (by decide +kernel)) (pv 0) (pe_sc (by decide +kernel))) (pe_one (pe_cmpR (oNe hr.units) (pe_callB cOrd (by rfl) T.b_ord (by decide +kernel) (pa_cons (pv 0) pa_nil)) (pe_gv T.g_BARRED) (by first | rfl | exact nomark _))))))))

abbrev M_need_text : List Str := ["text", "sign"]
theorem sc_need_text : FnScope M_need_text ["text"] (defScope st_need_text) := ⟨rfl, rfl, rfl, by decide +kernel, rfl, by decide +kernel, by decide +kernel⟩
theorem ok_need_text {f : Addr} {fd : FuncData} (F : Fun c.K "need_text" "need_text" st_need_text f fd) (T : Txt c mg) (R : RD M_need_text (t_need_text c) (sp_need_text c)) (Rl : ∀ vs H Q E, sp_need_text c vs H Q E → vs.length = 1) (D_is_sign : DefX P w c.K mg base CX0 "is_sign" 1 ["sign"] (sp_is_sign c)) : FnOk P w c.K mg base (L2N.CX P w) 2 f fd ["text"] (sp_need_text c) := by
  have nd := sc_need_text.nd
  refine funOkN F sc_need_text Rl (fun cdv A outer s H vs Q E hr h => ⟨t_need_text c E, ?_, R vs H Q E h⟩)
  exact (pss_one (ps_if (PW.pt (pw_or (pt_not (pt_val (pe_isTy (pv 0) (by rfl) T.b_isinstance (by rfl) T.b_str (by decide +kernel)))) (pw_or (pt_cmpR oGt (pe_callB cLen (by rfl) T.b_len (by decide +kernel) (pa_cons (pv 0) pa_nil)) (pe_gv T.g_MOST_TEXT) (by first | rfl | exact nomark _)) (pw_or1 (pt_not (pt_val (pe_callB (cr_all rfl) (by rfl) T.b_all (by decide +kernel) (pa_cons (pe_lc (own := [("sign", 1)]) (g := (gName 1)) (tt := tYes) (te := (tF (sp_is_sign c) E0 (tCons (tVar 1) tNil))) rfl nd (pi_str (pv 0)) (blkOk_by (own := [("sign", 1)]) (N := M_need_text) (sc := (defScope st_need_text)) (by decide +kernel)) (fun _ _ _ _ _ => (pg_name (i := 1) nd rfl (by first | exact Or.inl rfl | exact Or.inr rfl))) (fun _ _ _ _ _ => pts_nil) (fun _ _ _ _ _ => (pe_f D_is_sign hr (by decide) pass0 (pa_cons (pv 1) pa_nil)))) pa_nil)))))))) (pss_one (ps_rzN T.x_BadText (L2N.takes_of rfl rfl rfl rfl))) pss_nil))

abbrev M_Reader_init : List Str := ["self"]
theorem sc_Reader_init : FnScope M_Reader_init ["self"] (defScope st_Reader_init) := ⟨rfl, rfl, rfl, by decide +kernel, rfl, by decide +kernel, by decide +kernel⟩
theorem ok_Reader_init {f : Addr} {fd : FuncData} (F : Fun c.K "__init__" "Reader.__init__" st_Reader_init f fd) (T : Txt c mg) (R : RD M_Reader_init (t_Reader_init c) (sp_Reader_init c)) (Rl : ∀ vs H Q E, sp_Reader_init c vs H Q E → vs.length = 1) : FnOk P w c.K mg base CX0 1 f fd ["self"] (sp_Reader_init c) := by
  have nd := sc_Reader_init.nd
  refine F.ok sc_Reader_init Rl (fun cdv A outer s H vs Q E hr h => ⟨t_Reader_init c E, ?_, R vs H Q E h⟩)
  exact (pss_cons (ps_fld (pv 0) (pe_sc (by decide +kernel)) rfl)
  (pss_one (ps_fld (pv 0) pe_int rfl)))

abbrev M_Reader_feed : List Str := ["self", "text", "found", "sign"]
theorem sc_Reader_feed : FnScope M_Reader_feed ["self", "text"] (defScope st_Reader_feed) := ⟨rfl, rfl, rfl, by decide +kernel, rfl, by decide +kernel, by decide +kernel⟩
theorem ok_Reader_feed {f : Addr} {fd : FuncData} (F : Fun c.K "feed" "Reader.feed" st_Reader_feed f fd) (T : Txt c mg) (R : RD M_Reader_feed (t_Reader_feed c) (sp_Reader_feed c)) (Rl : ∀ vs H Q E, sp_Reader_feed c vs H Q E → vs.length = 2) (D_need_text : DefX P w c.K mg base (L2N.CX P w) "need_text" 2 ["text"] (sp_need_text c)) (D_Reader_read : MethX P w c.K mg base CX0 c.cReader "read" 2 ["self", "sign"] (sp_Reader_read c)) : FnOk P w c.K mg base (L2N.CX P w) 3 f fd ["self", "text"] (sp_Reader_feed c) := by
  have nd := sc_Reader_feed.nd
  refine funOkN F sc_Reader_feed Rl (fun cdv A outer s H vs Q E hr h => ⟨t_Reader_feed c E, ?_, R vs H Q E h⟩)
  exact (pss_cons (ps_expr (pe_f D_need_text hr (by decide) passEN (pa_cons (pv 1) pa_nil)))
  (pss_cons (ps_set (i := 2) nd rfl (by first | exact Or.inl rfl | exact Or.inr rfl) (pe_lst pa_nil))
  (pss_cons (ps_for (passes_of rfl) rfl (pi_str (pv 1)) (pg_name (i := 3) nd rfl (by first | exact Or.inl rfl | exact Or.inr rfl)) (pss_one (ps_expr (pe_bm PySem.F.plainAttrs_list PySem.F.slot_list_extend PySem.F.type_list_extend mt_extend (pv 2) (pa_cons (pe_o D_Reader_read hr (by decide) pass0 (pv 0) (pa_cons (pv 3) pa_nil)) pa_nil)))))
  (pss_one (ps_ret (pv 2))))))

abbrev M_Reader_plain : List Str := ["self", "sign"]
theorem sc_Reader_plain : FnScope M_Reader_plain ["self", "sign"] (defScope st_Reader_plain) := ⟨rfl, rfl, rfl, by decide +kernel, rfl, by decide +kernel, by decide +kernel⟩
theorem ok_Reader_plain {f : Addr} {fd : FuncData} (F : Fun c.K "plain" "Reader.plain" st_Reader_plain f fd) (T : Txt c mg) (R : RD M_Reader_plain (t_Reader_plain c) (sp_Reader_plain c)) (Rl : ∀ vs H Q E, sp_Reader_plain c vs H Q E → vs.length = 2) : FnOk P w c.K mg base CX0 1 f fd ["self", "sign"] (sp_Reader_plain c) := by
  have nd := sc_Reader_plain.nd
  refine F.ok sc_Reader_plain Rl (fun cdv A outer s H vs Q E hr h => ⟨t_Reader_plain c E, ?_, R vs H Q E h⟩)
  exact (pss_cons (ps_if (pt_cmpR (oEq hr.units) (pv 1) (pe_sc (by decide +kernel)) (by first | rfl | exact nomark _)) (pss_cons (ps_fld (pv 0) (pe_sc (by decide +kernel)) rfl)
  (pss_one (ps_ret (pe_lst pa_nil)))) pss_nil)
  (pss_one (ps_ret (pe_ifExp (pt_cmpR (oEq hr.units) (pv 1) (pe_gv T.g_GAP) (by first | rfl | exact nomark _)) (pe_lst (pa_cons (pe_tup (pa_cons (pe_sc (by decide +kernel)) pa_nil)) pa_nil)) (pe_lst (pa_cons (pe_tup (pa_cons (pe_sc (by decide +kernel)) (pa_cons (pv 1) pa_nil))) pa_nil))))))

abbrev M_Reader_read : List Str := ["self", "sign"]
theorem sc_Reader_read : FnScope M_Reader_read ["self", "sign"] (defScope st_Reader_read) := ⟨rfl, rfl, rfl, by decide +kernel, rfl, by decide +kernel, by decide +kernel⟩
theorem ok_Reader_read {f : Addr} {fd : FuncData} (F : Fun c.K "read" "Reader.read" st_Reader_read f fd) (T : Txt c mg) (R : RD M_Reader_read (t_Reader_read c) (sp_Reader_read c)) (Rl : ∀ vs H Q E, sp_Reader_read c vs H Q E → vs.length = 2) (D_Reader_plain : MethX P w c.K mg base CX0 c.cReader "plain" 1 ["self", "sign"] (sp_Reader_plain c)) (D_Reader_can_go_on : MethX P w c.K mg base CX0 c.cReader "can_go_on" 1 ["self", "sign"] (sp_Reader_can_go_on c)) (D_Reader_whole : MethX P w c.K mg base CX0 c.cReader "whole" 1 ["self"] (sp_Reader_whole c)) : FnOk P w c.K mg base CX0 2 f fd ["self", "sign"] (sp_Reader_read c) := by
  have nd := sc_Reader_read.nd
  refine F.ok sc_Reader_read Rl (fun cdv A outer s H vs Q E hr h => ⟨t_Reader_read c E, ?_, R vs H Q E h⟩)
  exact (pss_cons (ps_if (pt_cmpR (oEq hr.units) (pe_fld (pv 0) rfl) (pe_sc (by decide +kernel)) (by first | rfl | exact nomark _)) (pss_one (ps_ret (pe_o D_Reader_plain hr (by decide) pass0 (pv 0) (pa_cons (pv 1) pa_nil)))) pss_nil)
  (pss_cons (ps_if (pt_val (pe_o D_Reader_can_go_on hr (by decide) pass0 (pv 0) (pa_cons (pv 1) pa_nil))) (pss_cons (ps_fld (pv 0) (pe_op oAdd (pe_fld (pv 0) rfl) (pv 1)) rfl)
  (pss_one (ps_ret (pe_o0 D_Reader_whole hr (by decide) pass0 (pv 0))))) pss_nil)
  (pss_cons (ps_fld (pv 0) (pe_op oAdd (pe_fld (pv 0) rfl) (pe_callB cLen (by rfl) T.b_len (by decide +kernel) (pa_cons (pe_fld (pv 0) rfl) pa_nil))) rfl)
  (pss_cons (ps_fld (pv 0) (pe_sc (by decide +kernel)) rfl)
  (pss_one (ps_ret (pe_o D_Reader_plain hr (by decide) pass0 (pv 0) (pa_cons (pv 1) pa_nil))))))))

abbrev M_Reader_can_go_on : List Str := ["self", "sign", "last"]
theorem sc_Reader_can_go_on : FnScope M_Reader_can_go_on ["self", "sign"] (defScope st_Reader_can_go_on) := ⟨rfl, rfl, rfl, by decide +kernel, rfl, by decide +kernel, by decide +kernel⟩
theorem ok_Reader_can_go_on {f : Addr} {fd : FuncData} (F : Fun c.K "can_go_on" "Reader.can_go_on" st_Reader_can_go_on f fd) (T : Txt c mg) (R : RD M_Reader_can_go_on (t_Reader_can_go_on c) (sp_Reader_can_go_on c)) (Rl : ∀ vs H Q E, sp_Reader_can_go_on c vs H Q E → vs.length = 2) : FnOk P w c.K mg base CX0 1 f fd ["self", "sign"] (sp_Reader_can_go_on c) := by
  have nd := sc_Reader_can_go_on.nd
  refine F.ok sc_Reader_can_go_on Rl (fun cdv A outer s H vs Q E hr h => ⟨t_Reader_can_go_on c E, ?_, R vs H Q E h⟩)
  exact (pss_cons (ps_if (pt_cmpR (oEq hr.units) (pe_callB cLen (by rfl) T.b_len (by decide +kernel) (pa_cons (pe_fld (pv 0) rfl) pa_nil)) pe_int (by first | rfl | exact nomark _)) (pss_one (ps_ret (pe_cmpR oIn (pv 1) (pe_op oAdd (pe_op oAdd (pe_gv T.g_SMALL) (pe_gv T.g_GREAT)) (pe_sc (by decide +kernel))) (by first | rfl | exact nomark _)))) pss_nil)
  (pss_cons (ps_if (pt_cmpR (oEq hr.units) (pe_callB cLen (by rfl) T.b_len (by decide +kernel) (pa_cons (pe_fld (pv 0) rfl) pa_nil)) pe_int (by first | rfl | exact nomark _)) (pss_one (ps_ret (pe_cmpR (oEq hr.units) (pv 1) (pe_sc (by decide +kernel)) (by first | rfl | exact nomark _)))) pss_nil)
  (pss_cons (ps_set (i := 2) nd rfl (by first | exact Or.inl rfl | exact Or.inr rfl) (pe_ix iIx (pe_usplit (pe_slice sSl (pe_fld (pv 0) rfl) (po_some pe_int) po_none) (pe_sc (by decide +kernel))) (pe_un un_neg pe_int) (fun _ _ => rfl)))
  (pss_cons (ps_if (pt_cmpR oIn (pv 1) (pe_gv T.g_FIGURES) (by first | rfl | exact nomark _)) (pss_one (ps_ret (pe_cmpR oLt (pe_callB cLen (by rfl) T.b_len (by decide +kernel) (pa_cons (pv 2) pa_nil)) (pe_gv T.g_MOST_FIGURES) (by first | rfl | exact nomark _)))) pss_nil)
  (pss_cons (ps_if (pt_cmpR (oEq hr.units) (pv 1) (pe_sc (by decide +kernel)) (by first | rfl | exact nomark _)) (pss_one (ps_ret (pe_and (pe_cmpR (oNe hr.units) (pv 2) (pe_sc (by decide +kernel)) (by first | rfl | exact nomark _)) (pe_one (pe_cmpR oLt (pe_ucount (pe_fld (pv 0) rfl) (pe_sc (by decide +kernel))) (pe_op oSub (pe_gv T.g_MOST_ARGUMENTS) pe_int) (by first | rfl | exact nomark _)))))) pss_nil)
  (pss_one (ps_ret (pe_and (pe_cmpR (oEq hr.units) (pv 1) (pe_sc (by decide +kernel)) (by first | rfl | exact nomark _)) (pe_one (pe_or (pe_cmpR (oNe hr.units) (pv 2) (pe_sc (by decide +kernel)) (by first | rfl | exact nomark _)) (pe_one (pe_cmpR (oEq hr.units) (pe_ix iIx (pe_fld (pv 0) rfl) (pe_un un_neg pe_int) (fun _ _ => rfl)) (pe_sc (by decide +kernel)) (by first | rfl | exact nomark _)))))))))))))

abbrev M_Reader_whole : List Str := ["self", "word", "rest", "one"]
theorem sc_Reader_whole : FnScope M_Reader_whole ["self"] (defScope st_Reader_whole) := ⟨rfl, rfl, rfl, by decide +kernel, rfl, by decide +kernel, by decide +kernel⟩
theorem ok_Reader_whole {f : Addr} {fd : FuncData} (F : Fun c.K "whole" "Reader.whole" st_Reader_whole f fd) (T : Txt c mg) (R : RD M_Reader_whole (t_Reader_whole c) (sp_Reader_whole c)) (Rl : ∀ vs H Q E, sp_Reader_whole c vs H Q E → vs.length = 1) : FnOk P w c.K mg base CX0 1 f fd ["self"] (sp_Reader_whole c) := by
  have nd := sc_Reader_whole.nd
  refine F.ok sc_Reader_whole Rl (fun cdv A outer s H vs Q E hr h => ⟨t_Reader_whole c E, ?_, R vs H Q E h⟩)
  exact (pss_cons (ps_set (i := 1) nd rfl (by first | exact Or.inl rfl | exact Or.inr rfl) (pe_fld (pv 0) rfl))
  (pss_cons (ps_if (pt_cmpR (oEq hr.units) (pv 1) (pe_sc (by decide +kernel)) (by first | rfl | exact nomark _)) (pss_cons (ps_fld (pv 0) (pe_sc (by decide +kernel)) rfl)
  (pss_one (ps_ret (pe_lst (pa_cons (pe_tup (pa_cons (pe_sc (by decide +kernel)) (pa_cons (pe_sc (by decide +kernel)) pa_nil))) pa_nil))))) pss_nil)
  (pss_cons (ps_if (PW.pt (pw_and (pt_cmpR (oEq hr.units) (pe_callB cLen (by rfl) T.b_len (by decide +kernel) (pa_cons (pv 1) pa_nil)) pe_int (by first | rfl | exact nomark _)) (pw_and1 (pt_cmpR oIn (pe_ix iIx (pv 1) pe_int (fun _ _ => rfl)) (pe_gv T.g_SMALL) (by first | rfl | exact nomark _))))) (pss_cons (ps_fld (pv 0) (pe_sc (by decide +kernel)) rfl)
  (pss_one (ps_ret (pe_lst (pa_cons (pe_tup (pa_cons (pe_sc (by decide +kernel)) (pa_cons (pe_ix iIx (pv 1) pe_int (fun _ _ => rfl)) (pa_cons (pe_tup pa_nil) pa_nil)))) pa_nil))))) pss_nil)
  (pss_cons (ps_if (pt_cmpR (oNe hr.units) (pe_ix iIx (pv 1) (pe_un un_neg pe_int) (fun _ _ => rfl)) (pe_sc (by decide +kernel)) (by first | rfl | exact nomark _)) (pss_one (ps_ret (pe_lst pa_nil))) pss_nil)
  (pss_cons (ps_fld (pv 0) (pe_sc (by decide +kernel)) rfl)
  (pss_cons (ps_set (i := 2) nd rfl (by first | exact Or.inl rfl | exact Or.inr rfl) (pe_slice sSl (pv 1) (po_some pe_int) (po_some (pe_un un_neg pe_int))))
  (pss_one (ps_ret (pe_lst (pa_cons (pe_tup (pa_cons (pe_sc (by decide +kernel)) (pa_cons (pe_ix iIx (pv 1) pe_int (fun _ _ => rfl)) (pa_cons (pe_ifExp (pt_cmpR (oNe hr.units) (pv 2) (pe_sc (by decide +kernel)) (by first | rfl | exact nomark _)) (pe_callTy cTuple (by rfl) T.b_tuple (by decide +kernel) (pa_cons (pe_lc (own := [("one", 3)]) (g := (gName 3)) (tt := tYes) (te := (tCB uInt (tCons (tVar 3) tNil))) rfl nd (pi_list (pe_usplit (pv 2) (pe_sc (by decide +kernel)))) (blkOk_by (own := [("one", 3)]) (N := M_Reader_whole) (sc := (defScope st_Reader_whole)) (by decide +kernel)) (fun _ _ _ _ _ => (pg_name (i := 3) nd rfl (by first | exact Or.inl rfl | exact Or.inr rfl))) (fun _ _ _ _ _ => pts_nil) (fun _ _ _ _ _ => (pe_callTy cInt (by rfl) T.b_int (by decide +kernel) (pa_cons (pv 3) pa_nil)))) pa_nil)) (pe_tup pa_nil)) pa_nil)))) pa_nil))))))))))

abbrev M_is_count : List Str := ["thing", "least", "most"]
theorem sc_is_count : FnScope M_is_count ["thing", "least", "most"] (defScope st_is_count) := ⟨rfl, rfl, rfl, by decide +kernel, rfl, by decide +kernel, by decide +kernel⟩
theorem ok_is_count {f : Addr} {fd : FuncData} (F : Fun c.K "is_count" "is_count" st_is_count f fd) (T : Txt c mg) (R : RD M_is_count (t_is_count c) (sp_is_count c)) (Rl : ∀ vs H Q E, sp_is_count c vs H Q E → vs.length = 3) : FnOk P w c.K mg base CX0 1 f fd ["thing", "least", "most"] (sp_is_count c) := by
  have nd := sc_is_count.nd
  refine F.ok sc_is_count Rl (fun cdv A outer s H vs Q E hr h => ⟨t_is_count c E, ?_, R vs H Q E h⟩)
  exact (pss_one (ps_ret (pe_and (pe_isTy (pv 0) (by rfl) T.b_isinstance (by rfl) T.b_int (by decide +kernel)) (pe_and (pe_not (pe_isTy (pv 0) (by rfl) T.b_isinstance (by rfl) T.b_bool (by decide +kernel))) (pe_one (pe_chain oLe oLe (pv 1) (pv 0) (pv 2)))))))

abbrev M_need : List Str := ["good"]
theorem sc_need : FnScope M_need ["good"] (defScope st_need) := ⟨rfl, rfl, rfl, by decide +kernel, rfl, by decide +kernel, by decide +kernel⟩
theorem ok_need {f : Addr} {fd : FuncData} (F : Fun c.K "need" "need" st_need f fd) (T : Txt c mg) (R : RD M_need (t_need c) (sp_need c)) (Rl : ∀ vs H Q E, sp_need c vs H Q E → vs.length = 1) : FnOk P w c.K mg base (L2N.CX P w) 1 f fd ["good"] (sp_need c) := by
  have nd := sc_need.nd
  refine funOkN F sc_need Rl (fun cdv A outer s H vs Q E hr h => ⟨t_need c E, ?_, R vs H Q E h⟩)
  exact (pss_one (ps_if (pt_not (pt_val (pv 0))) (pss_one (ps_rzN T.x_BadPage (L2N.takes_of rfl rfl rfl rfl))) pss_nil))

abbrev M_is_pen : List Str := ["thing", "one", "most"]
theorem sc_is_pen : FnScope M_is_pen ["thing"] (defScope st_is_pen) := ⟨rfl, rfl, rfl, by decide +kernel, rfl, by decide +kernel, by decide +kernel⟩
theorem ok_is_pen {f : Addr} {fd : FuncData} (F : Fun c.K "is_pen" "is_pen" st_is_pen f fd) (T : Txt c mg) (R : RD M_is_pen (t_is_pen c) (sp_is_pen c)) (Rl : ∀ vs H Q E, sp_is_pen c vs H Q E → vs.length = 1) (D_is_count : DefX P w c.K mg base CX0 "is_count" 1 ["thing", "least", "most"] (sp_is_count c)) : FnOk P w c.K mg base CX0 2 f fd ["thing"] (sp_is_pen c) := by
  have nd := sc_is_pen.nd
  refine F.ok sc_is_pen Rl (fun cdv A outer s H vs Q E hr h => ⟨t_is_pen c E, ?_, R vs H Q E h⟩)
  exact (pss_cons (ps_if (PW.pt (pw_or (pt_not (pt_val (pe_isTy (pv 0) (by rfl) T.b_isinstance (by rfl) T.b_tuple (by decide +kernel)))) (pw_or1 (pt_cmpR (oNe hr.units) (pe_callB cLen (by rfl) T.b_len (by decide +kernel) (pa_cons (pv 0) pa_nil)) pe_int (by first | rfl | exact nomark _))))) (pss_one (ps_ret pe_bl)) pss_nil)
  (pss_one (ps_ret (pe_callB (cr_all rfl) (by rfl) T.b_all (by decide +kernel) (pa_cons (pe_lc (own := [("one", 1), ("most", 2)]) (g := (gTup c.K 2 (gCons (gName 1) (gCons (gName 2) gNil)))) (tt := tYes) (te := (tF (sp_is_count c) E0 (tCons (tVar 1) (tCons (tC (.int 0)) (tCons (tVar 2) tNil))))) rfl nd (RZ.pi_zipA (by rfl) T.b_zip (pa_cons (pv 0) (pa_cons (pe_tup (pa_cons (pe_gv T.g_MOST_COLOUR) (pa_cons (pe_gv T.g_MOST_COLOUR) (pa_cons (pe_gv T.g_MOST_MARKS) pa_nil)))) pa_nil))) (blkOk_by (own := [("one", 1), ("most", 2)]) (N := M_is_pen) (sc := (defScope st_is_pen)) (by decide +kernel)) (fun _ _ _ _ _ => (pg_tup (by rfl) (pgs_cons (pg_name (i := 1) nd rfl (by first | exact Or.inl rfl | exact Or.inr rfl)) (pgs_cons (pg_name (i := 2) nd rfl (by first | exact Or.inl rfl | exact Or.inr rfl)) pgs_nil)))) (fun _ _ _ _ _ => pts_nil) (fun _ _ _ _ _ => (pe_f D_is_count hr (by decide) pass0 (pa_cons (pv 1) (pa_cons pe_int (pa_cons (pv 2) pa_nil)))))) pa_nil)))))

abbrev M_is_cell : List Str := ["thing"]
theorem sc_is_cell : FnScope M_is_cell ["thing"] (defScope st_is_cell) := ⟨rfl, rfl, rfl, by decide +kernel, rfl, by decide +kernel, by decide +kernel⟩
theorem ok_is_cell {f : Addr} {fd : FuncData} (F : Fun c.K "is_cell" "is_cell" st_is_cell f fd) (T : Txt c mg) (R : RD M_is_cell (t_is_cell c) (sp_is_cell c)) (Rl : ∀ vs H Q E, sp_is_cell c vs H Q E → vs.length = 1) (D_is_pen : DefX P w c.K mg base CX0 "is_pen" 2 ["thing"] (sp_is_pen c)) (D_is_sign : DefX P w c.K mg base CX0 "is_sign" 1 ["sign"] (sp_is_sign c)) : FnOk P w c.K mg base CX0 3 f fd ["thing"] (sp_is_cell c) := by
  have nd := sc_is_cell.nd
  refine F.ok sc_is_cell Rl (fun cdv A outer s H vs Q E hr h => ⟨t_is_cell c E, ?_, R vs H Q E h⟩)
  exact (pss_cons (ps_if (PW.pt (pw_or (pt_not (pt_val (pe_isTy (pv 0) (by rfl) T.b_isinstance (by rfl) T.b_tuple (by decide +kernel)))) (pw_or (pt_cmpR (oNe hr.units) (pe_callB cLen (by rfl) T.b_len (by decide +kernel) (pa_cons (pv 0) pa_nil)) pe_int (by first | rfl | exact nomark _)) (pw_or (pt_not (pt_val (pe_isTy (pe_ix iIx (pv 0) pe_int (fun _ _ => rfl)) (by rfl) T.b_isinstance (by rfl) T.b_str (by decide +kernel)))) (pw_or1 (pt_cmpR (oNe hr.units) (pe_callB cLen (by rfl) T.b_len (by decide +kernel) (pa_cons (pe_ix iIx (pv 0) pe_int (fun _ _ => rfl)) pa_nil)) pe_int (by first | rfl | exact nomark _))))))) (pss_one (ps_ret pe_bl)) pss_nil)
  (pss_one (ps_ret (pe_and (pe_cmpR (oNe hr.units) (pe_ix iIx (pv 0) pe_int (fun _ _ => rfl)) (pe_gv T.g_GAP) (by first | rfl | exact nomark _)) (pe_and (pe_f D_is_sign hr (by decide) pass0 (pa_cons (pe_ix iIx (pv 0) pe_int (fun _ _ => rfl)) pa_nil)) (pe_one (pe_f D_is_pen hr (by decide) pass0 (pa_cons (pe_ix iIx (pv 0) pe_int (fun _ _ => rfl)) pa_nil))))))))

abbrev M_need_page : List Str := ["page", "row", "cell"]
theorem sc_need_page : FnScope M_need_page ["page"] (defScope st_need_page) := ⟨rfl, rfl, rfl, by decide +kernel, rfl, by decide +kernel, by decide +kernel⟩
theorem ok_need_page {f : Addr} {fd : FuncData} (F : Fun c.K "need_page" "need_page" st_need_page f fd) (T : Txt c mg) (R : RD M_need_page (t_need_page c) (sp_need_page c)) (Rl : ∀ vs H Q E, sp_need_page c vs H Q E → vs.length = 1) (D_need : DefX P w c.K mg base (L2N.CX P w) "need" 1 ["good"] (sp_need c)) (D_is_cell : DefX P w c.K mg base CX0 "is_cell" 3 ["thing"] (sp_is_cell c)) : FnOk P w c.K mg base (L2N.CX P w) 4 f fd ["page"] (sp_need_page c) := by
  have nd := sc_need_page.nd
  refine funOkN F sc_need_page Rl (fun cdv A outer s H vs Q E hr h => ⟨t_need_page c E, ?_, R vs H Q E h⟩)
  exact (pss_cons (ps_expr (pe_f D_need hr (by decide) passEN (pa_cons (pe_and (pe_isTy (pv 0) (by rfl) T.b_isinstance (by rfl) T.b_list (by decide +kernel)) (pe_and (pe_cmpR oGt (pe_callB cLen (by rfl) T.b_len (by decide +kernel) (pa_cons (pv 0) pa_nil)) pe_int (by first | rfl | exact nomark _)) (pe_one (pe_callB (cr_all rfl) (by rfl) T.b_all (by decide +kernel) (pa_cons (pe_lc (own := [("row", 1)]) (g := (gName 1)) (tt := tYes) (te := (tIsTy c.K (tVar 1) "list")) rfl nd (pi_list (pv 0)) (blkOk_by (own := [("row", 1)]) (N := M_need_page) (sc := (defScope st_need_page)) (by decide +kernel)) (fun _ _ _ _ _ => (pg_name (i := 1) nd rfl (by first | exact Or.inl rfl | exact Or.inr rfl))) (fun _ _ _ _ _ => pts_nil) (fun _ _ _ _ _ => (pe_isTy (pv 1) (by rfl) T.b_isinstance (by rfl) T.b_list (by decide +kernel)))) pa_nil))))) pa_nil)))
  (pss_cons (ps_expr (pe_f D_need hr (by decide) passEN (pa_cons (pe_and (pe_cmpR oGt (pe_callB cLen (by rfl) T.b_len (by decide +kernel) (pa_cons (pe_ix iIx (pv 0) pe_int (fun _ _ => rfl)) pa_nil)) pe_int (by first | rfl | exact nomark _)) (pe_one (pe_callB (cr_all rfl) (by rfl) T.b_all (by decide +kernel) (pa_cons (pe_lc (own := [("row", 1)]) (g := (gName 1)) (tt := tYes) (te := (tOp (uEq c.K) (tCB (uLen c.K) (tCons (tVar 1) tNil)) (tCB (uLen c.K) (tCons (tOp (uIx c.K) (tVar 0) (tC (.int 0))) tNil)))) rfl nd (pi_list (pv 0)) (blkOk_by (own := [("row", 1)]) (N := M_need_page) (sc := (defScope st_need_page)) (by decide +kernel)) (fun _ _ _ _ _ => (pg_name (i := 1) nd rfl (by first | exact Or.inl rfl | exact Or.inr rfl))) (fun _ _ _ _ _ => pts_nil) (fun _ _ _ _ _ => (pe_cmpR (oEq hr.units) (pe_callB cLen (by rfl) T.b_len (by decide +kernel) (pa_cons (pv 1) pa_nil)) (pe_callB cLen (by rfl) T.b_len (by decide +kernel) (pa_cons (pe_ix iIx (pv 0) pe_int (fun _ _ => rfl)) pa_nil)) (by first | rfl | exact nomark _)))) pa_nil)))) pa_nil)))
  (pss_one (ps_for (passes_of rfl) rfl (pi_list (pv 0)) (pg_name (i := 1) nd rfl (by first | exact Or.inl rfl | exact Or.inr rfl)) (pss_one (ps_expr (pe_f D_need hr (by decide) passEN (pa_cons (pe_callB (cr_all rfl) (by rfl) T.b_all (by decide +kernel) (pa_cons (pe_lc (own := [("cell", 2)]) (g := (gName 2)) (tt := tYes) (te := (tF (sp_is_cell c) E0 (tCons (tVar 2) tNil))) rfl nd (pi_list (pv 1)) (blkOk_by (own := [("cell", 2)]) (N := M_need_page) (sc := (defScope st_need_page)) (by decide +kernel)) (fun _ _ _ _ _ => (pg_name (i := 2) nd rfl (by first | exact Or.inl rfl | exact Or.inr rfl))) (fun _ _ _ _ _ => pts_nil) (fun _ _ _ _ _ => (pe_f D_is_cell hr (by decide) pass0 (pa_cons (pv 2) pa_nil)))) pa_nil)) pa_nil))))))))

abbrev M_changes : List Str := ["page", "other", "found", "at", "row", "column", "end"]
theorem sc_changes : FnScope M_changes ["page", "other"] (defScope st_changes) := ⟨rfl, rfl, rfl, by decide +kernel, rfl, by decide +kernel, by decide +kernel⟩
theorem ok_changes {f : Addr} {fd : FuncData} (F : Fun c.K "changes" "changes" st_changes f fd) (T : Txt c mg) (R : RD M_changes (t_changes c) (sp_changes c)) (Rl : ∀ vs H Q E, sp_changes c vs H Q E → vs.length = 2) (D_need_page : DefX P w c.K mg base (L2N.CX P w) "need_page" 4 ["page"] (sp_need_page c)) (D_need : DefX P w c.K mg base (L2N.CX P w) "need" 1 ["good"] (sp_need c)) : FnOk P w c.K mg base (L2N.CX P w) 5 f fd ["page", "other"] (sp_changes c) := by
  have nd := sc_changes.nd
  refine funOkN F sc_changes Rl (fun cdv A outer s H vs Q E hr h => ⟨t_changes c E, ?_, R vs H Q E h⟩)
  exact (pss_cons (ps_expr (pe_f D_need_page hr (by decide) passEN (pa_cons (pv 0) pa_nil)))
  (pss_cons (ps_expr (pe_f D_need_page hr (by decide) passEN (pa_cons (pv 1) pa_nil)))
  (pss_cons (ps_expr (pe_f D_need hr (by decide) passEN (pa_cons (pe_and (pe_cmpR (oEq hr.units) (pe_callB cLen (by rfl) T.b_len (by decide +kernel) (pa_cons (pv 0) pa_nil)) (pe_callB cLen (by rfl) T.b_len (by decide +kernel) (pa_cons (pv 1) pa_nil)) (by first | rfl | exact nomark _)) (pe_one (pe_cmpR (oEq hr.units) (pe_callB cLen (by rfl) T.b_len (by decide +kernel) (pa_cons (pe_ix iIx (pv 0) pe_int (fun _ _ => rfl)) pa_nil)) (pe_callB cLen (by rfl) T.b_len (by decide +kernel) (pa_cons (pe_ix iIx (pv 1) pe_int (fun _ _ => rfl)) pa_nil)) (by first | rfl | exact nomark _)))) pa_nil)))
  (pss_cons (ps_set (i := 2) nd rfl (by first | exact Or.inl rfl | exact Or.inr rfl) (pe_lst pa_nil))
  (pss_cons (ps_for (passes_of rfl) rfl (pi_enum (by rfl) T.b_enumerate (pa_cons (pv 1) pa_nil)) (pg_tup (by rfl) (pgs_cons (pg_name (i := 3) nd rfl (by first | exact Or.inl rfl | exact Or.inr rfl)) (pgs_cons (pg_name (i := 4) nd rfl (by first | exact Or.inl rfl | exact Or.inr rfl)) pgs_nil))) (pss_cons (ps_set (i := 5) nd rfl (by first | exact Or.inl rfl | exact Or.inr rfl) pe_int)
  (pss_one (ps_while (passes_of rfl) (pt_cmpR oLt (pv 5) (pe_callB cLen (by rfl) T.b_len (by decide +kernel) (pa_cons (pv 4) pa_nil)) (by first | rfl | exact nomark _)) (pss_cons (ps_set (i := 6) nd rfl (by first | exact Or.inl rfl | exact Or.inr rfl) (pv 5))
  (pss_cons (ps_while (passes_of rfl) (PW.pt (pw_and (pt_cmpR oLt (pv 6) (pe_callB cLen (by rfl) T.b_len (by decide +kernel) (pa_cons (pv 4) pa_nil)) (by first | rfl | exact nomark _)) (pw_and1 (pt_cmpR (oNe hr.units) (pe_ix iIx (pv 4) (pv 6) (fun _ _ => rfl)) (pe_ix iIx (pe_ix iIx (pv 0) (pv 3) (fun _ _ => rfl)) (pv 6) (fun _ _ => rfl)) (by first | rfl | exact nomark _))))) (pss_one (ps_set (i := 6) nd rfl (by first | exact Or.inl rfl | exact Or.inr rfl) (pe_op oAdd (pv 6) pe_int))))
  (pss_cons (ps_if (pt_cmpR oGt (pv 6) (pv 5) (by first | rfl | exact nomark _)) (pss_one (ps_expr (pe_bm PySem.F.plainAttrs_list PySem.F.slot_list_append PySem.F.type_list_append mt_append (pv 2) (pa_cons (pe_tup (pa_cons (pv 3) (pa_cons (pv 5) (pa_cons (pe_callTy cTuple (by rfl) T.b_tuple (by decide +kernel) (pa_cons (pe_slice sSl (pv 4) (po_some (pv 5)) (po_some (pv 6))) pa_nil)) pa_nil)))) pa_nil)))) pss_nil)
  (pss_one (ps_set (i := 5) nd rfl (by first | exact Or.inl rfl | exact Or.inr rfl) (pe_op oAdd (pv 6) pe_int))))))))))
  (pss_one (ps_ret (pv 2))))))))

abbrev M_need_size : List Str := ["good"]
theorem sc_need_size : FnScope M_need_size ["good"] (defScope st_need_size) := ⟨rfl, rfl, rfl, by decide +kernel, rfl, by decide +kernel, by decide +kernel⟩
theorem ok_need_size {f : Addr} {fd : FuncData} (F : Fun c.K "need_size" "need_size" st_need_size f fd) (T : Txt c mg) (R : RD M_need_size (t_need_size c) (sp_need_size c)) (Rl : ∀ vs H Q E, sp_need_size c vs H Q E → vs.length = 1) : FnOk P w c.K mg base (L2N.CX P w) 1 f fd ["good"] (sp_need_size c) := by
  have nd := sc_need_size.nd
  refine funOkN F sc_need_size Rl (fun cdv A outer s H vs Q E hr h => ⟨t_need_size c E, ?_, R vs H Q E h⟩)
  exact (pss_one (ps_if (pt_not (pt_val (pv 0))) (pss_one (ps_rzN T.x_BadSize (L2N.takes_of rfl rfl rfl rfl))) pss_nil))

abbrev M_Row_init : List Str := ["self", "cells", "goes_on"]
theorem sc_Row_init : FnScope M_Row_init ["self", "cells", "goes_on"] (defScope st_Row_init) := ⟨rfl, rfl, rfl, by decide +kernel, rfl, by decide +kernel, by decide +kernel⟩
theorem ok_Row_init {f : Addr} {fd : FuncData} (F : Fun c.K "__init__" "Row.__init__" st_Row_init f fd) (T : Txt c mg) (R : RD M_Row_init (t_Row_init c) (sp_Row_init c)) (Rl : ∀ vs H Q E, sp_Row_init c vs H Q E → vs.length = 3) : FnOk P w c.K mg base CX0 1 f fd ["self", "cells", "goes_on"] (sp_Row_init c) := by
  have nd := sc_Row_init.nd
  refine F.ok sc_Row_init Rl (fun cdv A outer s H vs Q E hr h => ⟨t_Row_init c E, ?_, R vs H Q E h⟩)
  exact (pss_cons (ps_fld (pv 0) (pv 1) rfl)
  (pss_one (ps_fld (pv 0) (pv 2) rfl)))

abbrev M_blank_row : List Str := ["wide"]
theorem sc_blank_row : FnScope M_blank_row ["wide"] (defScope st_blank_row) := ⟨rfl, rfl, rfl, by decide +kernel, rfl, by decide +kernel, by decide +kernel⟩
theorem ok_blank_row {f : Addr} {fd : FuncData} (F : Fun c.K "blank_row" "blank_row" st_blank_row f fd) (T : Txt c mg) (R : RD M_blank_row (t_blank_row c) (sp_blank_row c)) (Rl : ∀ vs H Q E, sp_blank_row c vs H Q E → vs.length = 1) (D_Row_init : InitX P w c.K mg base CX0 "Row" c.cRow 1 ["self", "cells", "goes_on"] (sp_Row_init c)) : FnOk P w c.K mg base CX0 3 f fd ["wide"] (sp_blank_row c) := by
  have nd := sc_blank_row.nd
  refine F.ok sc_blank_row Rl (fun cdv A outer s H vs Q E hr h => ⟨t_blank_row c E, ?_, R vs H Q E h⟩)
  exact (pss_one (ps_ret (pe_n D_Row_init hr (by decide) pass0 (pa_cons (pe_op oMul (pe_lst (pa_cons (pe_gv T.g_BLANK) pa_nil)) (pv 0)) (pa_cons pe_bl pa_nil)))))

abbrev M_Screen_init : List Str := ["self", "wide", "high", "most"]
theorem sc_Screen_init : FnScope M_Screen_init ["self", "wide", "high", "most"] (defScope st_Screen_init) := ⟨rfl, rfl, rfl, by decide +kernel, rfl, by decide +kernel, by decide +kernel⟩
theorem ok_Screen_init {f : Addr} {fd : FuncData} (F : Fun c.K "__init__" "Screen.__init__" st_Screen_init f fd) (T : Txt c mg) (R : RD M_Screen_init (t_Screen_init c) (sp_Screen_init c)) (Rl : ∀ vs H Q E, sp_Screen_init c vs H Q E → vs.length = 4) (D_need_size : DefX P w c.K mg base (L2N.CX P w) "need_size" 1 ["good"] (sp_need_size c)) (D_is_count : DefX P w c.K mg base CX0 "is_count" 1 ["thing", "least", "most"] (sp_is_count c)) (D_Reader_init : InitX P w c.K mg base CX0 "Reader" c.cReader 1 ["self"] (sp_Reader_init c)) (D_Screen_begin : MethX P w c.K mg base CX0 c.cScreen "begin" 4 ["self"] (sp_Screen_begin c)) : FnOk P w c.K mg base (L2N.CX P w) 5 f fd ["self", "wide", "high", "most"] (sp_Screen_init c) := by
  have nd := sc_Screen_init.nd
  refine funOkN F sc_Screen_init Rl (fun cdv A outer s H vs Q E hr h => ⟨t_Screen_init c E, ?_, R vs H Q E h⟩)
  exact (pss_cons (ps_expr (pe_f D_need_size hr (by decide) passEN (pa_cons (pe_and (pe_f D_is_count hr (by decide) pass0 (pa_cons (pv 1) (pa_cons (pe_gv T.g_LEAST_WIDE) (pa_cons (pe_gv T.g_MOST_WIDE) pa_nil)))) (pe_one (pe_f D_is_count hr (by decide) pass0 (pa_cons (pv 2) (pa_cons (pe_gv T.g_LEAST_HIGH) (pa_cons (pe_gv T.g_MOST_HIGH) pa_nil)))))) pa_nil)))
  (pss_cons (ps_expr (pe_f D_need_size hr (by decide) passEN (pa_cons (pe_f D_is_count hr (by decide) pass0 (pa_cons (pv 3) (pa_cons pe_int (pa_cons (pe_gv T.g_MOST_KEPT) pa_nil)))) pa_nil)))
  (pss_cons (ps_fld (pv 0) (pe_n0 D_Reader_init hr (by decide) pass0) rfl)
  (pss_cons (ps_fld (pv 0) (pv 1) rfl)
  (pss_cons (ps_fld (pv 0) (pv 2) rfl)
  (pss_cons (ps_fld (pv 0) (pv 3) rfl)
  (pss_cons (ps_fld (pv 0) (pe_lst pa_nil) rfl)
  (pss_one (ps_expr (pe_o0 D_Screen_begin hr (by decide) pass0 (pv 0)))))))))))

abbrev M_Screen_begin : List Str := ["self", "at"]
theorem sc_Screen_begin : FnScope M_Screen_begin ["self"] (defScope st_Screen_begin) := ⟨rfl, rfl, rfl, by decide +kernel, rfl, by decide +kernel, by decide +kernel⟩
theorem ok_Screen_begin {f : Addr} {fd : FuncData} (F : Fun c.K "begin" "Screen.begin" st_Screen_begin f fd) (T : Txt c mg) (R : RD M_Screen_begin (t_Screen_begin c) (sp_Screen_begin c)) (Rl : ∀ vs H Q E, sp_Screen_begin c vs H Q E → vs.length = 1) (D_blank_row : DefX P w c.K mg base CX0 "blank_row" 3 ["wide"] (sp_blank_row c)) : FnOk P w c.K mg base CX0 4 f fd ["self"] (sp_Screen_begin c) := by
  have nd := sc_Screen_begin.nd
  refine F.ok sc_Screen_begin Rl (fun cdv A outer s H vs Q E hr h => ⟨t_Screen_begin c E, ?_, R vs H Q E h⟩)
  exact (pss_cons (ps_fld (pv 0) (pe_lc (own := [("at", 1)]) (g := (gName 1)) (tt := tYes) (te := (tF (sp_blank_row c) E0 (tCons (tFld c.K (tVar 0) "wide") tNil))) rfl nd (pi_range1 (by rfl) T.b_range (pa_cons (pe_fld (pv 0) rfl) pa_nil)) (blkOk_by (own := [("at", 1)]) (N := M_Screen_begin) (sc := (defScope st_Screen_begin)) (by decide +kernel)) (fun _ _ _ _ _ => (pg_name (i := 1) nd rfl (by first | exact Or.inl rfl | exact Or.inr rfl))) (fun _ _ _ _ _ => pts_nil) (fun _ _ _ _ _ => (pe_f D_blank_row hr (by decide) pass0 (pa_cons (pe_fld (pv 0) rfl) pa_nil)))) rfl)
  (pss_cons (ps_fld (pv 0) pe_int rfl)
  (pss_cons (ps_fld (pv 0) pe_int rfl)
  (pss_cons (ps_fld (pv 0) pe_bl rfl)
  (pss_cons (ps_fld (pv 0) (pe_gv T.g_PLAIN) rfl)
  (pss_cons (ps_fld (pv 0) pe_int rfl)
  (pss_cons (ps_fld (pv 0) (pe_op oSub (pe_fld (pv 0) rfl) pe_int) rfl)
  (pss_cons (ps_fld (pv 0) (pe_tup (pa_cons pe_int (pa_cons pe_int (pa_cons (pe_gv T.g_PLAIN) pa_nil)))) rfl)
  (pss_one (ps_fld (pv 0) pe_non rfl))))))))))

abbrev M_Screen_page : List Str := ["self", "row"]
theorem sc_Screen_page : FnScope M_Screen_page ["self"] (defScope st_Screen_page) := ⟨rfl, rfl, rfl, by decide +kernel, rfl, by decide +kernel, by decide +kernel⟩
theorem ok_Screen_page {f : Addr} {fd : FuncData} (F : Fun c.K "page" "Screen.page" st_Screen_page f fd) (T : Txt c mg) (R : RD M_Screen_page (t_Screen_page c) (sp_Screen_page c)) (Rl : ∀ vs H Q E, sp_Screen_page c vs H Q E → vs.length = 1) : FnOk P w c.K mg base CX0 1 f fd ["self"] (sp_Screen_page c) := by
  have nd := sc_Screen_page.nd
  refine F.ok sc_Screen_page Rl (fun cdv A outer s H vs Q E hr h => ⟨t_Screen_page c E, ?_, R vs H Q E h⟩)
  exact (pss_one (ps_ret (pe_lc (own := [("row", 1)]) (g := (gName 1)) (tt := tYes) (te := (tCB (uList c.K) (tCons (tFld c.K (tVar 1) "cells") tNil))) rfl nd (pi_list (pe_fld (pv 0) rfl)) (blkOk_by (own := [("row", 1)]) (N := M_Screen_page) (sc := (defScope st_Screen_page)) (by decide +kernel)) (fun _ _ _ _ _ => (pg_name (i := 1) nd rfl (by first | exact Or.inl rfl | exact Or.inr rfl))) (fun _ _ _ _ _ => pts_nil) (fun _ _ _ _ _ => (pe_callTy cList (by rfl) T.b_list (by decide +kernel) (pa_cons (pe_fld (pv 1) rfl) pa_nil))))))

abbrev M_Screen_cursor : List Str := ["self"]
theorem sc_Screen_cursor : FnScope M_Screen_cursor ["self"] (defScope st_Screen_cursor) := ⟨rfl, rfl, rfl, by decide +kernel, rfl, by decide +kernel, by decide +kernel⟩
theorem ok_Screen_cursor {f : Addr} {fd : FuncData} (F : Fun c.K "cursor" "Screen.cursor" st_Screen_cursor f fd) (T : Txt c mg) (R : RD M_Screen_cursor (t_Screen_cursor c) (sp_Screen_cursor c)) (Rl : ∀ vs H Q E, sp_Screen_cursor c vs H Q E → vs.length = 1) : FnOk P w c.K mg base CX0 1 f fd ["self"] (sp_Screen_cursor c) := by
  have nd := sc_Screen_cursor.nd
  refine F.ok sc_Screen_cursor Rl (fun cdv A outer s H vs Q E hr h => ⟨t_Screen_cursor c E, ?_, R vs H Q E h⟩)
  exact (pss_one (ps_ret (pe_tup (pa_cons (pe_fld (pv 0) rfl) (pa_cons (pe_fld (pv 0) rfl) (pa_cons (pe_fld (pv 0) rfl) pa_nil))))))

abbrev M_Screen_feed : List Str := ["self", "text", "one"]
theorem sc_Screen_feed : FnScope M_Screen_feed ["self", "text"] (defScope st_Screen_feed) := ⟨rfl, rfl, rfl, by decide +kernel, rfl, by decide +kernel, by decide +kernel⟩
theorem ok_Screen_feed {f : Addr} {fd : FuncData} (F : Fun c.K "feed" "Screen.feed" st_Screen_feed f fd) (T : Txt c mg) (R : RD M_Screen_feed (t_Screen_feed c) (sp_Screen_feed c)) (Rl : ∀ vs H Q E, sp_Screen_feed c vs H Q E → vs.length = 2) (D_Reader_feed : MethX P w c.K mg base (L2N.CX P w) c.cReader "feed" 3 ["self", "text"] (sp_Reader_feed c)) (D_Screen_do : MethX P w c.K mg base CX0 c.cScreen "do" 9 ["self", "one"] (sp_Screen_do c)) : FnOk P w c.K mg base (L2N.CX P w) 10 f fd ["self", "text"] (sp_Screen_feed c) := by
  have nd := sc_Screen_feed.nd
  refine funOkN F sc_Screen_feed Rl (fun cdv A outer s H vs Q E hr h => ⟨t_Screen_feed c E, ?_, R vs H Q E h⟩)
  exact (pss_one (ps_for (passes_of rfl) rfl (pi_list (pe_o D_Reader_feed hr (by decide) passEN (pe_fld (pv 0) rfl) (pa_cons (pv 1) pa_nil))) (pg_name (i := 2) nd rfl (by first | exact Or.inl rfl | exact Or.inr rfl)) (pss_one (ps_expr (pe_o D_Screen_do hr (by decide) pass0 (pv 0) (pa_cons (pv 2) pa_nil))))))

abbrev M_Screen_do : List Str := ["self", "one"]
theorem sc_Screen_do : FnScope M_Screen_do ["self", "one"] (defScope st_Screen_do) := ⟨rfl, rfl, rfl, by decide +kernel, rfl, by decide +kernel, by decide +kernel⟩
theorem ok_Screen_do {f : Addr} {fd : FuncData} (F : Fun c.K "do" "Screen.do" st_Screen_do f fd) (T : Txt c mg) (R : RD M_Screen_do (t_Screen_do c) (sp_Screen_do c)) (Rl : ∀ vs H Q E, sp_Screen_do c vs H Q E → vs.length = 2) (D_Screen_put : MethX P w c.K mg base CX0 c.cScreen "put" 6 ["self", "sign"] (sp_Screen_put c)) (D_Screen_down : MethX P w c.K mg base CX0 c.cScreen "down" 5 ["self"] (sp_Screen_down c)) (D_Screen_stand : MethX P w c.K mg base CX0 c.cScreen "stand" 1 ["self", "row", "column"] (sp_Screen_stand c)) (D_Screen_small : MethX P w c.K mg base CX0 c.cScreen "small" 6 ["self", "word"] (sp_Screen_small c)) (D_Screen_great : MethX P w c.K mg base CX0 c.cScreen "great" 8 ["self", "word", "numbers"] (sp_Screen_great c)) : FnOk P w c.K mg base CX0 9 f fd ["self", "one"] (sp_Screen_do c) := by
  have nd := sc_Screen_do.nd
  refine F.ok sc_Screen_do Rl (fun cdv A outer s H vs Q E hr h => ⟨t_Screen_do c E, ?_, R vs H Q E h⟩)
  exact (pss_one (ps_if (pt_cmpR (oEq hr.units) (pe_ix iIx (pv 1) pe_int (fun _ _ => rfl)) (pe_sc (by decide +kernel)) (by first | rfl | exact nomark _)) (pss_one (ps_expr (pe_o D_Screen_put hr (by decide) pass0 (pv 0) (pa_cons (pe_ix iIx (pv 1) pe_int (fun _ _ => rfl)) pa_nil)))) (pss_one (ps_if (pt_cmpR (oEq hr.units) (pe_ix iIx (pv 1) pe_int (fun _ _ => rfl)) (pe_sc (by decide +kernel)) (by first | rfl | exact nomark _)) (pss_cons (ps_expr (pe_o0 D_Screen_down hr (by decide) pass0 (pv 0)))
  (pss_one (ps_expr (pe_o D_Screen_stand hr (by decide) pass0 (pv 0) (pa_cons (pe_fld (pv 0) rfl) (pa_cons pe_int pa_nil)))))) (pss_one (ps_if (pt_cmpR oIn (pe_ix iIx (pv 1) pe_int (fun _ _ => rfl)) (pe_gv T.g_SMALL) (by first | rfl | exact nomark _)) (pss_one (ps_expr (pe_o D_Screen_small hr (by decide) pass0 (pv 0) (pa_cons (pe_ix iIx (pv 1) pe_int (fun _ _ => rfl)) pa_nil)))) (pss_one (ps_expr (pe_o D_Screen_great hr (by decide) pass0 (pv 0) (pa_cons (pe_ix iIx (pv 1) pe_int (fun _ _ => rfl)) (pa_cons (pe_ix iIx (pv 1) pe_int (fun _ _ => rfl)) pa_nil)))))))))))

abbrev M_Screen_stand : List Str := ["self", "row", "column"]
theorem sc_Screen_stand : FnScope M_Screen_stand ["self", "row", "column"] (defScope st_Screen_stand) := ⟨rfl, rfl, rfl, by decide +kernel, rfl, by decide +kernel, by decide +kernel⟩
theorem ok_Screen_stand {f : Addr} {fd : FuncData} (F : Fun c.K "stand" "Screen.stand" st_Screen_stand f fd) (T : Txt c mg) (R : RD M_Screen_stand (t_Screen_stand c) (sp_Screen_stand c)) (Rl : ∀ vs H Q E, sp_Screen_stand c vs H Q E → vs.length = 3) : FnOk P w c.K mg base CX0 1 f fd ["self", "row", "column"] (sp_Screen_stand c) := by
  have nd := sc_Screen_stand.nd
  refine F.ok sc_Screen_stand Rl (fun cdv A outer s H vs Q E hr h => ⟨t_Screen_stand c E, ?_, R vs H Q E h⟩)
  exact (pss_cons (ps_fld (pv 0) (pe_callB (cMax rfl) (by rfl) T.b_max (by decide +kernel) (pa_cons pe_int (pa_cons (pe_callB (cMin rfl) (by rfl) T.b_min (by decide +kernel) (pa_cons (pe_op oSub (pe_fld (pv 0) rfl) pe_int) (pa_cons (pv 1) pa_nil))) pa_nil))) rfl)
  (pss_cons (ps_fld (pv 0) (pe_callB (cMax rfl) (by rfl) T.b_max (by decide +kernel) (pa_cons pe_int (pa_cons (pe_callB (cMin rfl) (by rfl) T.b_min (by decide +kernel) (pa_cons (pe_op oSub (pe_fld (pv 0) rfl) pe_int) (pa_cons (pv 2) pa_nil))) pa_nil))) rfl)
  (pss_one (ps_fld (pv 0) pe_bl rfl))))

abbrev M_Screen_put : List Str := ["self", "sign"]
theorem sc_Screen_put : FnScope M_Screen_put ["self", "sign"] (defScope st_Screen_put) := ⟨rfl, rfl, rfl, by decide +kernel, rfl, by decide +kernel, by decide +kernel⟩
theorem ok_Screen_put {f : Addr} {fd : FuncData} (F : Fun c.K "put" "Screen.put" st_Screen_put f fd) (T : Txt c mg) (R : RD M_Screen_put (t_Screen_put c) (sp_Screen_put c)) (Rl : ∀ vs H Q E, sp_Screen_put c vs H Q E → vs.length = 2) (D_Screen_down : MethX P w c.K mg base CX0 c.cScreen "down" 5 ["self"] (sp_Screen_down c)) (D_Screen_stand : MethX P w c.K mg base CX0 c.cScreen "stand" 1 ["self", "row", "column"] (sp_Screen_stand c)) : FnOk P w c.K mg base CX0 6 f fd ["self", "sign"] (sp_Screen_put c) := by
  have nd := sc_Screen_put.nd
  refine F.ok sc_Screen_put Rl (fun cdv A outer s H vs Q E hr h => ⟨t_Screen_put c E, ?_, R vs H Q E h⟩)
  exact (C8.pss_cut (ps_if (pt_val (pe_fld (pv 0) rfl)) (pss_cons (ps_fld (pe_ix iIx (pe_fld (pv 0) rfl) (pe_fld (pv 0) rfl) (fun _ _ => rfl)) (pe_or (pe_cmpR (oEq hr.units) (pe_fld (pv 0) rfl) (pe_fld (pv 0) rfl) (by first | rfl | exact nomark _)) (pe_one (pe_cmpR oLt (pe_fld (pv 0) rfl) (pe_op oSub (pe_fld (pv 0) rfl) pe_int) (by first | rfl | exact nomark _)))) rfl)
  (pss_cons (ps_expr (pe_o0 D_Screen_down hr (by decide) pass0 (pv 0)))
  (pss_one (ps_expr (pe_o D_Screen_stand hr (by decide) pass0 (pv 0) (pa_cons (pe_fld (pv 0) rfl) (pa_cons pe_int pa_nil))))))) pss_nil) (pss_cons (ps_asg (pe_tup (pa_cons (pv 1) (pa_cons (pe_fld (pv 0) rfl) pa_nil))) (pg_sub (pe_fld (pe_ix iIx (pe_fld (pv 0) rfl) (pe_fld (pv 0) rfl) (fun _ _ => rfl)) rfl) (pe_fld (pv 0) rfl) set_list))
  (pss_cons (ps_fld (pv 0) (pv 1) rfl)
  (pss_one (ps_if (pt_cmpR (oEq hr.units) (pe_fld (pv 0) rfl) (pe_op oSub (pe_fld (pv 0) rfl) pe_int) (by first | rfl | exact nomark _)) (pss_one (ps_fld (pv 0) pe_bl rfl)) (pss_one (ps_fld (pv 0) (pe_op oAdd (pe_fld (pv 0) rfl) pe_int) rfl)))))))

abbrev M_Screen_roll : List Str := ["self", "top", "many", "fresh", "at"]
theorem sc_Screen_roll : FnScope M_Screen_roll ["self", "top", "many"] (defScope st_Screen_roll) := ⟨rfl, rfl, rfl, by decide +kernel, rfl, by decide +kernel, by decide +kernel⟩
theorem ok_Screen_roll {f : Addr} {fd : FuncData} (F : Fun c.K "roll" "Screen.roll" st_Screen_roll f fd) (T : Txt c mg) (R : RD M_Screen_roll (t_Screen_roll c) (sp_Screen_roll c)) (Rl : ∀ vs H Q E, sp_Screen_roll c vs H Q E → vs.length = 3) (D_blank_row : DefX P w c.K mg base CX0 "blank_row" 3 ["wide"] (sp_blank_row c)) (D_Screen_cut_off : MethX P w c.K mg base CX0 c.cScreen "cut_off" 1 ["self", "top"] (sp_Screen_cut_off c)) : FnOk P w c.K mg base CX0 4 f fd ["self", "top", "many"] (sp_Screen_roll c) := by
  have nd := sc_Screen_roll.nd
  refine F.ok sc_Screen_roll Rl (fun cdv A outer s H vs Q E hr h => ⟨t_Screen_roll c E, ?_, R vs H Q E h⟩)
  exact (pss_cons (ps_set (i := 2) nd rfl (by first | exact Or.inl rfl | exact Or.inr rfl) (pe_callB (cMin rfl) (by rfl) T.b_min (by decide +kernel) (pa_cons (pv 2) (pa_cons (pe_op oAdd (pe_op oSub (pe_fld (pv 0) rfl) (pv 1)) pe_int) pa_nil))))
  (C8.pss_cut (ps_if (pt_cmpR (oEq hr.units) (pv 1) pe_int (by first | rfl | exact nomark _)) (pss_one (ps_fld (pv 0) (pe_slice sSl (pe_op oAdd (pe_fld (pv 0) rfl) (pe_slice sSl (pe_fld (pv 0) rfl) po_none (po_some (pv 2)))) (po_some (pe_callB (cMax rfl) (by rfl) T.b_max (by decide +kernel) (pa_cons pe_int (pa_cons (pe_op oSub (pe_op oAdd (pe_callB cLen (by rfl) T.b_len (by decide +kernel) (pa_cons (pe_fld (pv 0) rfl) pa_nil)) (pv 2)) (pe_fld (pv 0) rfl)) pa_nil)))) po_none) rfl)) pss_nil) (pss_cons (by first | exact (ps_setLc (i := 3) (own := [("at", 4)]) (g := (gName 4)) (tt := tYes) (te := (tF (sp_blank_row c) E0 (tCons (tFld c.K (tVar 0) "wide") tNil))) rfl nd rfl rfl (sw_true rfl rfl rfl (by decide +kernel)) (pi_range1 (by rfl) T.b_range (pa_cons (pv 2) pa_nil)) (blkOk_by (own := [("at", 4)]) (N := M_Screen_roll) (sc := (defScope st_Screen_roll)) (by decide +kernel)) (fun _ _ _ _ _ => (pg_name (i := 4) nd rfl (by first | exact Or.inl rfl | exact Or.inr rfl))) (fun _ _ _ _ _ => pts_nil) (fun _ _ _ _ _ => (pe_f D_blank_row hr (by decide) pass0 (pa_cons (pe_fld (pv 0) rfl) pa_nil)))) | exact (ps_set (i := 3) nd rfl (by first | exact Or.inl rfl | exact Or.inr rfl) (pe_lc (own := [("at", 4)]) (g := (gName 4)) (tt := tYes) (te := (tF (sp_blank_row c) E0 (tCons (tFld c.K (tVar 0) "wide") tNil))) rfl nd (pi_range1 (by rfl) T.b_range (pa_cons (pv 2) pa_nil)) (blkOk_by (own := [("at", 4)]) (N := M_Screen_roll) (sc := (defScope st_Screen_roll)) (by decide +kernel)) (fun _ _ _ _ _ => (pg_name (i := 4) nd rfl (by first | exact Or.inl rfl | exact Or.inr rfl))) (fun _ _ _ _ _ => pts_nil) (fun _ _ _ _ _ => (pe_f D_blank_row hr (by decide) pass0 (pa_cons (pe_fld (pv 0) rfl) pa_nil))))))
  (pss_cons (ps_fld (pv 0) (pe_op oAdd (pe_op oAdd (pe_op oAdd (pe_slice sSl (pe_fld (pv 0) rfl) po_none (po_some (pv 1))) (pe_slice sSl (pe_fld (pv 0) rfl) (po_some (pe_op oAdd (pv 1) (pv 2))) (po_some (pe_op oAdd (pe_fld (pv 0) rfl) pe_int)))) (pv 3)) (pe_slice sSl (pe_fld (pv 0) rfl) (po_some (pe_op oAdd (pe_fld (pv 0) rfl) pe_int)) po_none)) rfl)
  (pss_one (ps_expr (pe_o D_Screen_cut_off hr (by decide) pass0 (pv 0) (pa_cons (pv 1) pa_nil))))))))

abbrev M_Screen_roll_down : List Str := ["self", "top", "many", "fresh", "at", "left"]
theorem sc_Screen_roll_down : FnScope M_Screen_roll_down ["self", "top", "many"] (defScope st_Screen_roll_down) := ⟨rfl, rfl, rfl, by decide +kernel, rfl, by decide +kernel, by decide +kernel⟩
theorem ok_Screen_roll_down {f : Addr} {fd : FuncData} (F : Fun c.K "roll_down" "Screen.roll_down" st_Screen_roll_down f fd) (T : Txt c mg) (R : RD M_Screen_roll_down (t_Screen_roll_down c) (sp_Screen_roll_down c)) (Rl : ∀ vs H Q E, sp_Screen_roll_down c vs H Q E → vs.length = 3) (D_blank_row : DefX P w c.K mg base CX0 "blank_row" 3 ["wide"] (sp_blank_row c)) (D_Screen_cut_off : MethX P w c.K mg base CX0 c.cScreen "cut_off" 1 ["self", "top"] (sp_Screen_cut_off c)) : FnOk P w c.K mg base CX0 4 f fd ["self", "top", "many"] (sp_Screen_roll_down c) := by
  have nd := sc_Screen_roll_down.nd
  refine F.ok sc_Screen_roll_down Rl (fun cdv A outer s H vs Q E hr h => ⟨t_Screen_roll_down c E, ?_, R vs H Q E h⟩)
  exact (pss_cons (ps_set (i := 2) nd rfl (by first | exact Or.inl rfl | exact Or.inr rfl) (pe_callB (cMin rfl) (by rfl) T.b_min (by decide +kernel) (pa_cons (pv 2) (pa_cons (pe_op oAdd (pe_op oSub (pe_fld (pv 0) rfl) (pv 1)) pe_int) pa_nil))))
  (pss_cons (by first | exact (ps_setLc (i := 3) (own := [("at", 4)]) (g := (gName 4)) (tt := tYes) (te := (tF (sp_blank_row c) E0 (tCons (tFld c.K (tVar 0) "wide") tNil))) rfl nd rfl rfl (sw_true rfl rfl rfl (by decide +kernel)) (pi_range1 (by rfl) T.b_range (pa_cons (pv 2) pa_nil)) (blkOk_by (own := [("at", 4)]) (N := M_Screen_roll_down) (sc := (defScope st_Screen_roll_down)) (by decide +kernel)) (fun _ _ _ _ _ => (pg_name (i := 4) nd rfl (by first | exact Or.inl rfl | exact Or.inr rfl))) (fun _ _ _ _ _ => pts_nil) (fun _ _ _ _ _ => (pe_f D_blank_row hr (by decide) pass0 (pa_cons (pe_fld (pv 0) rfl) pa_nil)))) | exact (ps_set (i := 3) nd rfl (by first | exact Or.inl rfl | exact Or.inr rfl) (pe_lc (own := [("at", 4)]) (g := (gName 4)) (tt := tYes) (te := (tF (sp_blank_row c) E0 (tCons (tFld c.K (tVar 0) "wide") tNil))) rfl nd (pi_range1 (by rfl) T.b_range (pa_cons (pv 2) pa_nil)) (blkOk_by (own := [("at", 4)]) (N := M_Screen_roll_down) (sc := (defScope st_Screen_roll_down)) (by decide +kernel)) (fun _ _ _ _ _ => (pg_name (i := 4) nd rfl (by first | exact Or.inl rfl | exact Or.inr rfl))) (fun _ _ _ _ _ => pts_nil) (fun _ _ _ _ _ => (pe_f D_blank_row hr (by decide) pass0 (pa_cons (pe_fld (pv 0) rfl) pa_nil))))))
  (pss_cons (ps_set (i := 5) nd rfl (by first | exact Or.inl rfl | exact Or.inr rfl) (pe_slice sSl (pe_fld (pv 0) rfl) (po_some (pv 1)) (po_some (pe_op oSub (pe_op oAdd (pe_fld (pv 0) rfl) pe_int) (pv 2)))))
  (pss_cons (ps_fld (pv 0) (pe_op oAdd (pe_op oAdd (pe_op oAdd (pe_slice sSl (pe_fld (pv 0) rfl) po_none (po_some (pv 1))) (pv 3)) (pv 5)) (pe_slice sSl (pe_fld (pv 0) rfl) (po_some (pe_op oAdd (pe_fld (pv 0) rfl) pe_int)) po_none)) rfl)
  (pss_one (ps_expr (pe_o D_Screen_cut_off hr (by decide) pass0 (pv 0) (pa_cons (pv 1) pa_nil))))))))

abbrev M_Screen_cut_off : List Str := ["self", "top", "at"]
theorem sc_Screen_cut_off : FnScope M_Screen_cut_off ["self", "top"] (defScope st_Screen_cut_off) := ⟨rfl, rfl, rfl, by decide +kernel, rfl, by decide +kernel, by decide +kernel⟩
theorem ok_Screen_cut_off {f : Addr} {fd : FuncData} (F : Fun c.K "cut_off" "Screen.cut_off" st_Screen_cut_off f fd) (T : Txt c mg) (R : RD M_Screen_cut_off (t_Screen_cut_off c) (sp_Screen_cut_off c)) (Rl : ∀ vs H Q E, sp_Screen_cut_off c vs H Q E → vs.length = 2) : FnOk P w c.K mg base CX0 1 f fd ["self", "top"] (sp_Screen_cut_off c) := by
  have nd := sc_Screen_cut_off.nd
  refine F.ok sc_Screen_cut_off Rl (fun cdv A outer s H vs Q E hr h => ⟨t_Screen_cut_off c E, ?_, R vs H Q E h⟩)
  exact (pss_one (ps_for PassesOwn.never rfl (pi_tup (pe_tup (pa_cons (pe_op oSub (pv 1) pe_int) (pa_cons (pe_fld (pv 0) rfl) pa_nil)))) (pg_name (i := 2) nd rfl (by first | exact Or.inl rfl | exact Or.inr rfl)) (pss_one (ps_if (pt_cmpR oGe (pv 2) pe_int (by first | rfl | exact nomark _)) (pss_one (ps_fld (pe_ix iIx (pe_fld (pv 0) rfl) (pv 2) (fun _ _ => rfl)) pe_bl rfl)) pss_nil))))

abbrev M_Screen_down : List Str := ["self"]
theorem sc_Screen_down : FnScope M_Screen_down ["self"] (defScope st_Screen_down) := ⟨rfl, rfl, rfl, by decide +kernel, rfl, by decide +kernel, by decide +kernel⟩
theorem ok_Screen_down {f : Addr} {fd : FuncData} (F : Fun c.K "down" "Screen.down" st_Screen_down f fd) (T : Txt c mg) (R : RD M_Screen_down (t_Screen_down c) (sp_Screen_down c)) (Rl : ∀ vs H Q E, sp_Screen_down c vs H Q E → vs.length = 1) (D_Screen_roll : MethX P w c.K mg base CX0 c.cScreen "roll" 4 ["self", "top", "many"] (sp_Screen_roll c)) : FnOk P w c.K mg base CX0 5 f fd ["self"] (sp_Screen_down c) := by
  have nd := sc_Screen_down.nd
  refine F.ok sc_Screen_down Rl (fun cdv A outer s H vs Q E hr h => ⟨t_Screen_down c E, ?_, R vs H Q E h⟩)
  exact (pss_one (ps_if (pt_cmpR (oEq hr.units) (pe_fld (pv 0) rfl) (pe_fld (pv 0) rfl) (by first | rfl | exact nomark _)) (pss_one (ps_expr (pe_o D_Screen_roll hr (by decide) pass0 (pv 0) (pa_cons (pe_fld (pv 0) rfl) (pa_cons pe_int pa_nil))))) (pss_one (ps_if (pt_cmpR oLt (pe_fld (pv 0) rfl) (pe_op oSub (pe_fld (pv 0) rfl) pe_int) (by first | rfl | exact nomark _)) (pss_one (ps_fld (pv 0) (pe_op oAdd (pe_fld (pv 0) rfl) pe_int) rfl)) pss_nil))))

abbrev M_Screen_up : List Str := ["self"]
theorem sc_Screen_up : FnScope M_Screen_up ["self"] (defScope st_Screen_up) := ⟨rfl, rfl, rfl, by decide +kernel, rfl, by decide +kernel, by decide +kernel⟩
theorem ok_Screen_up {f : Addr} {fd : FuncData} (F : Fun c.K "up" "Screen.up" st_Screen_up f fd) (T : Txt c mg) (R : RD M_Screen_up (t_Screen_up c) (sp_Screen_up c)) (Rl : ∀ vs H Q E, sp_Screen_up c vs H Q E → vs.length = 1) (D_Screen_roll_down : MethX P w c.K mg base CX0 c.cScreen "roll_down" 4 ["self", "top", "many"] (sp_Screen_roll_down c)) : FnOk P w c.K mg base CX0 5 f fd ["self"] (sp_Screen_up c) := by
  have nd := sc_Screen_up.nd
  refine F.ok sc_Screen_up Rl (fun cdv A outer s H vs Q E hr h => ⟨t_Screen_up c E, ?_, R vs H Q E h⟩)
  exact (pss_one (ps_if (pt_cmpR (oEq hr.units) (pe_fld (pv 0) rfl) (pe_fld (pv 0) rfl) (by first | rfl | exact nomark _)) (pss_one (ps_expr (pe_o D_Screen_roll_down hr (by decide) pass0 (pv 0) (pa_cons (pe_fld (pv 0) rfl) (pa_cons pe_int pa_nil))))) (pss_one (ps_if (pt_cmpR oGt (pe_fld (pv 0) rfl) pe_int (by first | rfl | exact nomark _)) (pss_one (ps_fld (pv 0) (pe_op oSub (pe_fld (pv 0) rfl) pe_int) rfl)) pss_nil))))

abbrev M_Screen_small : List Str := ["self", "word", "by"]
theorem sc_Screen_small : FnScope M_Screen_small ["self", "word"] (defScope st_Screen_small) := ⟨rfl, rfl, rfl, by decide +kernel, rfl, by decide +kernel, by decide +kernel⟩
theorem ok_Screen_small {f : Addr} {fd : FuncData} (F : Fun c.K "small" "Screen.small" st_Screen_small f fd) (T : Txt c mg) (R : RD M_Screen_small (t_Screen_small c) (sp_Screen_small c)) (Rl : ∀ vs H Q E, sp_Screen_small c vs H Q E → vs.length = 2) (D_Screen_stand : MethX P w c.K mg base CX0 c.cScreen "stand" 1 ["self", "row", "column"] (sp_Screen_stand c)) (D_Screen_down : MethX P w c.K mg base CX0 c.cScreen "down" 5 ["self"] (sp_Screen_down c)) (D_Screen_up : MethX P w c.K mg base CX0 c.cScreen "up" 5 ["self"] (sp_Screen_up c)) (D_Screen_erase : MethX P w c.K mg base CX0 c.cScreen "erase" 4 ["self", "word"] (sp_Screen_erase c)) (D_Screen_begin : MethX P w c.K mg base CX0 c.cScreen "begin" 4 ["self"] (sp_Screen_begin c)) : FnOk P w c.K mg base CX0 6 f fd ["self", "word"] (sp_Screen_small c) := by
  have nd := sc_Screen_small.nd
  refine F.ok sc_Screen_small Rl (fun cdv A outer s H vs Q E hr h => ⟨t_Screen_small c E, ?_, R vs H Q E h⟩)
  exact (pss_one (ps_if (pt_cmpR oIn (pv 1) (pe_tup (pa_cons (pe_sc (by decide +kernel)) (pa_cons (pe_sc (by decide +kernel)) (pa_cons (pe_sc (by decide +kernel)) (pa_cons (pe_sc (by decide +kernel)) pa_nil))))) (by first | rfl | exact nomark _)) (pss_cons (ps_set (i := 2) nd rfl (by first | exact Or.inl rfl | exact Or.inr rfl) (pe_dget (hu_of hr) (pe_disp (pps_cons (pe_sc (by decide +kernel)) (pe_tup (pa_cons (pe_un un_neg pe_int) (pa_cons pe_int pa_nil))) (pps_cons (pe_sc (by decide +kernel)) (pe_tup (pa_cons pe_int (pa_cons pe_int pa_nil))) (pps_cons (pe_sc (by decide +kernel)) (pe_tup (pa_cons pe_int (pa_cons (pe_un un_neg pe_int) pa_nil))) (pps_cons (pe_sc (by decide +kernel)) (pe_tup (pa_cons pe_int (pa_cons pe_int pa_nil))) pps_nil)))) (by rfl) (by rfl) (fun z => by cases z) (by decide)) (pv 1) (fun _ _ => rfl)))
  (pss_one (ps_expr (pe_o D_Screen_stand hr (by decide) pass0 (pv 0) (pa_cons (pe_op oAdd (pe_fld (pv 0) rfl) (pe_ix iIx (pv 2) pe_int (fun _ _ => rfl))) (pa_cons (pe_op oAdd (pe_fld (pv 0) rfl) (pe_ix iIx (pv 2) pe_int (fun _ _ => rfl))) pa_nil)))))) (pss_one (ps_if (pt_cmpR (oEq hr.units) (pv 1) (pe_sc (by decide +kernel)) (by first | rfl | exact nomark _)) (pss_one (ps_expr (pe_o D_Screen_stand hr (by decide) pass0 (pv 0) (pa_cons pe_int (pa_cons pe_int pa_nil))))) (pss_one (ps_if (pt_cmpR oIn (pv 1) (pe_tup (pa_cons (pe_sc (by decide +kernel)) (pa_cons (pe_sc (by decide +kernel)) pa_nil))) (by first | rfl | exact nomark _)) (C8.pss_cut (ps_if (pt_cmpR (oEq hr.units) (pv 1) (pe_sc (by decide +kernel)) (by first | rfl | exact nomark _)) (pss_one (ps_expr (pe_o0 D_Screen_down hr (by decide) pass0 (pv 0)))) (pss_one (ps_expr (pe_o0 D_Screen_up hr (by decide) pass0 (pv 0))))) (pss_one (ps_expr (pe_o D_Screen_stand hr (by decide) pass0 (pv 0) (pa_cons (pe_fld (pv 0) rfl) (pa_cons (pe_fld (pv 0) rfl) pa_nil)))))) (pss_one (ps_if (pt_cmpR oIn (pv 1) (pe_tup (pa_cons (pe_sc (by decide +kernel)) (pa_cons (pe_sc (by decide +kernel)) (pa_cons (pe_sc (by decide +kernel)) (pa_cons (pe_sc (by decide +kernel)) pa_nil))))) (by first | rfl | exact nomark _)) (pss_one (ps_expr (pe_o D_Screen_erase hr (by decide) pass0 (pv 0) (pa_cons (pv 1) pa_nil)))) (pss_one (ps_if (pt_cmpR (oEq hr.units) (pv 1) (pe_sc (by decide +kernel)) (by first | rfl | exact nomark _)) (pss_one (ps_fld (pv 0) (pe_tup (pa_cons (pe_fld (pv 0) rfl) (pa_cons (pe_fld (pv 0) rfl) (pa_cons (pe_fld (pv 0) rfl) pa_nil)))) rfl)) (pss_one (ps_if (pt_cmpR (oEq hr.units) (pv 1) (pe_sc (by decide +kernel)) (by first | rfl | exact nomark _)) (pss_cons (ps_expr (pe_o D_Screen_stand hr (by decide) pass0 (pv 0) (pa_cons (pe_ix iIx (pe_fld (pv 0) rfl) pe_int (fun _ _ => rfl)) (pa_cons (pe_ix iIx (pe_fld (pv 0) rfl) pe_int (fun _ _ => rfl)) pa_nil))))
  (pss_one (ps_fld (pv 0) (pe_ix iIx (pe_fld (pv 0) rfl) pe_int (fun _ _ => rfl)) rfl))) (pss_one (ps_if (pt_cmpR (oEq hr.units) (pv 1) (pe_sc (by decide +kernel)) (by first | rfl | exact nomark _)) (pss_one (ps_expr (pe_o0 D_Screen_begin hr (by decide) pass0 (pv 0)))) pss_nil))))))))))))))

abbrev M_Screen_erase : List Str := ["self", "word", "row", "at"]
theorem sc_Screen_erase : FnScope M_Screen_erase ["self", "word"] (defScope st_Screen_erase) := ⟨rfl, rfl, rfl, by decide +kernel, rfl, by decide +kernel, by decide +kernel⟩
theorem ok_Screen_erase {f : Addr} {fd : FuncData} (F : Fun c.K "erase" "Screen.erase" st_Screen_erase f fd) (T : Txt c mg) (R : RD M_Screen_erase (t_Screen_erase c) (sp_Screen_erase c)) (Rl : ∀ vs H Q E, sp_Screen_erase c vs H Q E → vs.length = 2) (D_blank_row : DefX P w c.K mg base CX0 "blank_row" 3 ["wide"] (sp_blank_row c)) : FnOk P w c.K mg base CX0 4 f fd ["self", "word"] (sp_Screen_erase c) := by
  have nd := sc_Screen_erase.nd
  refine F.ok sc_Screen_erase Rl (fun cdv A outer s H vs Q E hr h => ⟨t_Screen_erase c E, ?_, R vs H Q E h⟩)
  exact (pss_cons (ps_set (i := 2) nd rfl (by first | exact Or.inl rfl | exact Or.inr rfl) (pe_ix iIx (pe_fld (pv 0) rfl) (pe_fld (pv 0) rfl) (fun _ _ => rfl)))
  (C8.pss_cut (ps_if (pt_cmpR (oEq hr.units) (pv 1) (pe_sc (by decide +kernel)) (by first | rfl | exact nomark _)) (pss_one (ps_fld (pv 2) (pe_op oAdd (pe_slice sSl (pe_fld (pv 2) rfl) po_none (po_some (pe_fld (pv 0) rfl))) (pe_op oMul (pe_lst (pa_cons (pe_gv T.g_BLANK) pa_nil)) (pe_op oSub (pe_fld (pv 0) rfl) (pe_fld (pv 0) rfl)))) rfl)) (pss_one (ps_if (pt_cmpR (oEq hr.units) (pv 1) (pe_sc (by decide +kernel)) (by first | rfl | exact nomark _)) (pss_one (ps_fld (pv 2) (pe_op oAdd (pe_op oMul (pe_lst (pa_cons (pe_gv T.g_BLANK) pa_nil)) (pe_op oAdd (pe_fld (pv 0) rfl) pe_int)) (pe_slice sSl (pe_fld (pv 2) rfl) (po_some (pe_op oAdd (pe_fld (pv 0) rfl) pe_int)) po_none)) rfl)) (pss_one (ps_if (pt_cmpR (oEq hr.units) (pv 1) (pe_sc (by decide +kernel)) (by first | rfl | exact nomark _)) (pss_one (ps_fld (pv 2) (pe_op oMul (pe_lst (pa_cons (pe_gv T.g_BLANK) pa_nil)) (pe_fld (pv 0) rfl)) rfl)) (pss_one (ps_fld (pv 0) (pe_lc (own := [("at", 3)]) (g := (gName 3)) (tt := tYes) (te := (tF (sp_blank_row c) E0 (tCons (tFld c.K (tVar 0) "wide") tNil))) rfl nd (pi_range1 (by rfl) T.b_range (pa_cons (pe_fld (pv 0) rfl) pa_nil)) (blkOk_by (own := [("at", 3)]) (N := M_Screen_erase) (sc := (defScope st_Screen_erase)) (by decide +kernel)) (fun _ _ _ _ _ => (pg_name (i := 3) nd rfl (by first | exact Or.inl rfl | exact Or.inr rfl))) (fun _ _ _ _ _ => pts_nil) (fun _ _ _ _ _ => (pe_f D_blank_row hr (by decide) pass0 (pa_cons (pe_fld (pv 0) rfl) pa_nil)))) rfl))))))) (C8.pss_cut (ps_if (pt_cmpR (oNe hr.units) (pv 1) (pe_sc (by decide +kernel)) (by first | rfl | exact nomark _)) (pss_one (ps_fld (pe_ix iIx (pe_fld (pv 0) rfl) (pe_fld (pv 0) rfl) (fun _ _ => rfl)) pe_bl rfl)) pss_nil) (pss_one (ps_fld (pv 0) pe_bl rfl)))))

abbrev M_Screen_great : List Str := ["self", "word", "numbers"]
theorem sc_Screen_great : FnScope M_Screen_great ["self", "word", "numbers"] (defScope st_Screen_great) := ⟨rfl, rfl, rfl, by decide +kernel, rfl, by decide +kernel, by decide +kernel⟩
theorem ok_Screen_great {f : Addr} {fd : FuncData} (F : Fun c.K "great" "Screen.great" st_Screen_great f fd) (T : Txt c mg) (R : RD M_Screen_great (t_Screen_great c) (sp_Screen_great c)) (Rl : ∀ vs H Q E, sp_Screen_great c vs H Q E → vs.length = 3) (D_Screen_stand : MethX P w c.K mg base CX0 c.cScreen "stand" 1 ["self", "row", "column"] (sp_Screen_stand c)) (D_Screen_one : MethX P w c.K mg base CX0 c.cScreen "one" 7 ["self", "word", "number"] (sp_Screen_one c)) : FnOk P w c.K mg base CX0 8 f fd ["self", "word", "numbers"] (sp_Screen_great c) := by
  have nd := sc_Screen_great.nd
  refine F.ok sc_Screen_great Rl (fun cdv A outer s H vs Q E hr h => ⟨t_Screen_great c E, ?_, R vs H Q E h⟩)
  exact (pss_one (ps_if (PW.pt (pw_and (pt_cmpR (oEq hr.units) (pv 1) (pe_sc (by decide +kernel)) (by first | rfl | exact nomark _)) (pw_and1 (pt_cmpR (oEq hr.units) (pe_callB cLen (by rfl) T.b_len (by decide +kernel) (pa_cons (pv 2) pa_nil)) pe_int (by first | rfl | exact nomark _))))) (pss_one (ps_expr (pe_o D_Screen_stand hr (by decide) pass0 (pv 0) (pa_cons (pe_ix iIx (pv 2) pe_int (fun _ _ => rfl)) (pa_cons (pe_ix iIx (pv 2) pe_int (fun _ _ => rfl)) pa_nil))))) (pss_one (ps_if (PW.pt (pw_and (pt_cmpR (oEq hr.units) (pv 1) (pe_sc (by decide +kernel)) (by first | rfl | exact nomark _)) (pw_and1 (pt_cmpR (oEq hr.units) (pe_callB cLen (by rfl) T.b_len (by decide +kernel) (pa_cons (pv 2) pa_nil)) pe_int (by first | rfl | exact nomark _))))) (pss_one (ps_if (pt_chain oLt oLt (pe_ix iIx (pv 2) pe_int (fun _ _ => rfl)) (pe_ix iIx (pv 2) pe_int (fun _ _ => rfl)) (pe_fld (pv 0) rfl)) (pss_cons (ps_asg (pv 2) (pg_tup (by rfl) (pgs_cons (pg_attr (pv 0)) (pgs_cons (pg_attr (pv 0)) pgs_nil))))
  (pss_one (ps_expr (pe_o D_Screen_stand hr (by decide) pass0 (pv 0) (pa_cons pe_int (pa_cons pe_int pa_nil)))))) pss_nil)) (pss_one (ps_if (pt_cmpR (oEq hr.units) (pe_callB cLen (by rfl) T.b_len (by decide +kernel) (pa_cons (pv 2) pa_nil)) pe_int (by first | rfl | exact nomark _)) (pss_one (ps_expr (pe_o D_Screen_one hr (by decide) pass0 (pv 0) (pa_cons (pv 1) (pa_cons (pe_ix iIx (pv 2) pe_int (fun _ _ => rfl)) pa_nil))))) pss_nil))))))

abbrev M_Screen_one : List Str := ["self", "word", "number", "at"]
theorem sc_Screen_one : FnScope M_Screen_one ["self", "word", "number"] (defScope st_Screen_one) := ⟨rfl, rfl, rfl, by decide +kernel, rfl, by decide +kernel, by decide +kernel⟩
theorem ok_Screen_one {f : Addr} {fd : FuncData} (F : Fun c.K "one" "Screen.one" st_Screen_one f fd) (T : Txt c mg) (R : RD M_Screen_one (t_Screen_one c) (sp_Screen_one c)) (Rl : ∀ vs H Q E, sp_Screen_one c vs H Q E → vs.length = 3) (D_Screen_shift : MethX P w c.K mg base CX0 c.cScreen "shift" 1 ["self", "word", "many"] (sp_Screen_shift c)) (D_Screen_take_rows : MethX P w c.K mg base CX0 c.cScreen "take_rows" 5 ["self", "number"] (sp_Screen_take_rows c)) (D_Screen_roll_down : MethX P w c.K mg base CX0 c.cScreen "roll_down" 4 ["self", "top", "many"] (sp_Screen_roll_down c)) (D_Screen_stand : MethX P w c.K mg base CX0 c.cScreen "stand" 1 ["self", "row", "column"] (sp_Screen_stand c)) (D_Screen_put : MethX P w c.K mg base CX0 c.cScreen "put" 6 ["self", "sign"] (sp_Screen_put c)) : FnOk P w c.K mg base CX0 7 f fd ["self", "word", "number"] (sp_Screen_one c) := by
  have nd := sc_Screen_one.nd
  refine F.ok sc_Screen_one Rl (fun cdv A outer s H vs Q E hr h => ⟨t_Screen_one c E, ?_, R vs H Q E h⟩)
  exact (pss_one (ps_if (pt_cmpR oIn (pv 1) (pe_tup (pa_cons (pe_sc (by decide +kernel)) (pa_cons (pe_sc (by decide +kernel)) (pa_cons (pe_sc (by decide +kernel)) pa_nil)))) (by first | rfl | exact nomark _)) (pss_cons (ps_set (i := 3) nd rfl (by first | exact Or.inl rfl | exact Or.inr rfl) (pe_tix (pa_cons (pe_sc (by decide +kernel)) (pa_cons (pe_sc (by decide +kernel)) (pa_cons (pe_sc (by decide +kernel)) pa_nil))) (pa_cons (pv 1) pa_nil)))
  (pss_one (ps_if (pt_cmpR oLe (pv 2) (pe_ix iIx (pe_tup (pa_cons pe_int (pa_cons pe_int (pa_cons pe_int pa_nil)))) (pv 3) (fun _ _ => rfl)) (by first | rfl | exact nomark _)) (pss_one (ps_fld (pv 0) (pe_op oAdd (pe_op oAdd (pe_slice sSl (pe_fld (pv 0) rfl) po_none (po_some (pv 3))) (pe_tup (pa_cons (pv 2) pa_nil))) (pe_slice sSl (pe_fld (pv 0) rfl) (po_some (pe_op oAdd (pv 3) pe_int)) po_none)) rfl)) pss_nil))) (pss_one (ps_if (pt_cmpR oIn (pv 1) (pe_tup (pa_cons (pe_sc (by decide +kernel)) (pa_cons (pe_sc (by decide +kernel)) pa_nil))) (by first | rfl | exact nomark _)) (pss_one (ps_expr (pe_o D_Screen_shift hr (by decide) pass0 (pv 0) (pa_cons (pv 1) (pa_cons (pe_callB (cMin rfl) (by rfl) T.b_min (by decide +kernel) (pa_cons (pv 2) (pa_cons (pe_op oSub (pe_fld (pv 0) rfl) (pe_fld (pv 0) rfl)) pa_nil))) pa_nil))))) (pss_one (ps_if (PW.pt (pw_and (pt_cmpR oIn (pv 1) (pe_tup (pa_cons (pe_sc (by decide +kernel)) (pa_cons (pe_sc (by decide +kernel)) pa_nil))) (by first | rfl | exact nomark _)) (pw_and1 (pt_chain oLe oLe (pe_fld (pv 0) rfl) (pe_fld (pv 0) rfl) (pe_fld (pv 0) rfl))))) (C8.pss_cut (ps_if (pt_cmpR (oEq hr.units) (pv 1) (pe_sc (by decide +kernel)) (by first | rfl | exact nomark _)) (pss_one (ps_expr (pe_o D_Screen_take_rows hr (by decide) pass0 (pv 0) (pa_cons (pv 2) pa_nil)))) (pss_one (ps_expr (pe_o D_Screen_roll_down hr (by decide) pass0 (pv 0) (pa_cons (pe_fld (pv 0) rfl) (pa_cons (pv 2) pa_nil)))))) (pss_one (ps_expr (pe_o D_Screen_stand hr (by decide) pass0 (pv 0) (pa_cons (pe_fld (pv 0) rfl) (pa_cons pe_int pa_nil)))))) (pss_one (ps_if (PW.pt (pw_and (pt_cmpR (oEq hr.units) (pv 1) (pe_sc (by decide +kernel)) (by first | rfl | exact nomark _)) (pw_and1 (pt_cmpR oIsNot (pe_fld (pv 0) rfl) pe_non (by first | rfl | exact nomark _))))) (pss_one (ps_for PassesOwn.never rfl (pi_range1 (by rfl) T.b_range (pa_cons (pe_callB (cMin rfl) (by rfl) T.b_min (by decide +kernel) (pa_cons (pv 2) (pa_cons (pe_op oMul (pe_fld (pv 0) rfl) (pe_fld (pv 0) rfl)) pa_nil))) pa_nil)) (pg_name (i := 3) nd rfl (by first | exact Or.inl rfl | exact Or.inr rfl)) (pss_one (ps_expr (pe_o D_Screen_put hr (by decide) pass0 (pv 0) (pa_cons (pe_fld (pv 0) rfl) pa_nil)))))) pss_nil))))))))

abbrev M_Screen_take_rows : List Str := ["self", "number", "past"]
theorem sc_Screen_take_rows : FnScope M_Screen_take_rows ["self", "number"] (defScope st_Screen_take_rows) := ⟨rfl, rfl, rfl, by decide +kernel, rfl, by decide +kernel, by decide +kernel⟩
theorem ok_Screen_take_rows {f : Addr} {fd : FuncData} (F : Fun c.K "take_rows" "Screen.take_rows" st_Screen_take_rows f fd) (T : Txt c mg) (R : RD M_Screen_take_rows (t_Screen_take_rows c) (sp_Screen_take_rows c)) (Rl : ∀ vs H Q E, sp_Screen_take_rows c vs H Q E → vs.length = 2) (D_Screen_roll : MethX P w c.K mg base CX0 c.cScreen "roll" 4 ["self", "top", "many"] (sp_Screen_roll c)) : FnOk P w c.K mg base CX0 5 f fd ["self", "number"] (sp_Screen_take_rows c) := by
  have nd := sc_Screen_take_rows.nd
  refine F.ok sc_Screen_take_rows Rl (fun cdv A outer s H vs Q E hr h => ⟨t_Screen_take_rows c E, ?_, R vs H Q E h⟩)
  exact (pss_cons (ps_set (i := 2) nd rfl (by first | exact Or.inl rfl | exact Or.inr rfl) (pe_fld (pv 0) rfl))
  (pss_cons (ps_expr (pe_o D_Screen_roll hr (by decide) pass0 (pv 0) (pa_cons (pe_fld (pv 0) rfl) (pa_cons (pv 1) pa_nil))))
  (pss_one (ps_fld (pv 0) (pv 2) rfl))))

abbrev M_Screen_shift : List Str := ["self", "word", "many", "row", "ahead", "rest"]
theorem sc_Screen_shift : FnScope M_Screen_shift ["self", "word", "many"] (defScope st_Screen_shift) := ⟨rfl, rfl, rfl, by decide +kernel, rfl, by decide +kernel, by decide +kernel⟩
theorem ok_Screen_shift {f : Addr} {fd : FuncData} (F : Fun c.K "shift" "Screen.shift" st_Screen_shift f fd) (T : Txt c mg) (R : RD M_Screen_shift (t_Screen_shift c) (sp_Screen_shift c)) (Rl : ∀ vs H Q E, sp_Screen_shift c vs H Q E → vs.length = 3) : FnOk P w c.K mg base CX0 1 f fd ["self", "word", "many"] (sp_Screen_shift c) := by
  have nd := sc_Screen_shift.nd
  refine F.ok sc_Screen_shift Rl (fun cdv A outer s H vs Q E hr h => ⟨t_Screen_shift c E, ?_, R vs H Q E h⟩)
  exact (pss_cons (ps_set (i := 3) nd rfl (by first | exact Or.inl rfl | exact Or.inr rfl) (pe_ix iIx (pe_fld (pv 0) rfl) (pe_fld (pv 0) rfl) (fun _ _ => rfl)))
  (pss_cons (ps_par (i := 4) (j := 5) (by rfl) nd rfl rfl (by decide) rfl rfl (pa_cons (pe_slice sSl (pe_fld (pv 3) rfl) po_none (po_some (pe_fld (pv 0) rfl))) (pa_cons (pe_slice sSl (pe_fld (pv 3) rfl) (po_some (pe_fld (pv 0) rfl)) po_none) pa_nil)) (by rfl))
  (C8.pss_cut (ps_if (pt_cmpR (oEq hr.units) (pv 1) (pe_sc (by decide +kernel)) (by first | rfl | exact nomark _)) (pss_one (ps_fld (pv 3) (pe_op oAdd (pe_op oAdd (pv 4) (pe_slice sSl (pv 5) (po_some (pv 2)) po_none)) (pe_op oMul (pe_lst (pa_cons (pe_gv T.g_BLANK) pa_nil)) (pv 2))) rfl)) (pss_one (ps_fld (pv 3) (pe_op oAdd (pe_op oAdd (pv 4) (pe_op oMul (pe_lst (pa_cons (pe_gv T.g_BLANK) pa_nil)) (pv 2))) (pe_slice sSl (pv 5) po_none (po_some (pe_op oSub (pe_callB cLen (by rfl) T.b_len (by decide +kernel) (pa_cons (pv 5) pa_nil)) (pv 2))))) rfl))) (pss_cons (ps_fld (pv 3) pe_bl rfl)
  (pss_one (ps_fld (pv 0) pe_bl rfl))))))

abbrev M_Tape_init : List Str := ["self", "wide", "high", "most"]
theorem sc_Tape_init : FnScope M_Tape_init ["self", "wide", "high", "most"] (defScope st_Tape_init) := ⟨rfl, rfl, rfl, by decide +kernel, rfl, by decide +kernel, by decide +kernel⟩
theorem ok_Tape_init {f : Addr} {fd : FuncData} (F : Fun c.K "__init__" "Tape.__init__" st_Tape_init f fd) (T : Txt c mg) (R : RD M_Tape_init (t_Tape_init c) (sp_Tape_init c)) (Rl : ∀ vs H Q E, sp_Tape_init c vs H Q E → vs.length = 4) (D_Screen_init : InitX P w c.K mg base (L2N.CX P w) "Screen" c.cScreen 5 ["self", "wide", "high", "most"] (sp_Screen_init c)) : FnOk P w c.K mg base (L2N.CX P w) 7 f fd ["self", "wide", "high", "most"] (sp_Tape_init c) := by
  have nd := sc_Tape_init.nd
  refine funOkN F sc_Tape_init Rl (fun cdv A outer s H vs Q E hr h => ⟨t_Tape_init c E, ?_, R vs H Q E h⟩)
  exact (pss_cons (ps_expr (pe_n D_Screen_init hr (by decide) passEN (pa_cons (pv 1) (pa_cons (pv 2) (pa_cons (pv 3) pa_nil)))))
  (pss_cons (ps_fld (pv 0) (pe_tup (pa_cons (pv 1) (pa_cons (pv 2) (pa_cons (pv 3) pa_nil)))) rfl)
  (pss_cons (ps_fld (pv 0) (pe_lst pa_nil) rfl)
  (pss_one (ps_fld (pv 0) (pe_lst pa_nil) rfl)))))

abbrev M_Tape_record : List Str := ["self", "ticks", "text"]
theorem sc_Tape_record : FnScope M_Tape_record ["self", "ticks", "text"] (defScope st_Tape_record) := ⟨rfl, rfl, rfl, by decide +kernel, rfl, by decide +kernel, by decide +kernel⟩
theorem ok_Tape_record {f : Addr} {fd : FuncData} (F : Fun c.K "record" "Tape.record" st_Tape_record f fd) (T : Txt c mg) (R : RD M_Tape_record (t_Tape_record c) (sp_Tape_record c)) (Rl : ∀ vs H Q E, sp_Tape_record c vs H Q E → vs.length = 3) (D_is_count : DefX P w c.K mg base CX0 "is_count" 1 ["thing", "least", "most"] (sp_is_count c)) (D_need_text : DefX P w c.K mg base (L2N.CX P w) "need_text" 2 ["text"] (sp_need_text c)) (D_Tape_length : MethX P w c.K mg base CX0 c.cTape "length" 1 ["self"] (sp_Tape_length c)) : FnOk P w c.K mg base (L2N.CX P w) 3 f fd ["self", "ticks", "text"] (sp_Tape_record c) := by
  have nd := sc_Tape_record.nd
  refine funOkN F sc_Tape_record Rl (fun cdv A outer s H vs Q E hr h => ⟨t_Tape_record c E, ?_, R vs H Q E h⟩)
  exact (pss_cons (ps_if (PW.pt (pw_or (pt_not (pt_val (pe_f D_is_count hr (by decide) pass0 (pa_cons (pv 1) (pa_cons pe_int (pa_cons (pe_gv T.g_MOST_TICKS) pa_nil)))))) (pw_or1 (pt_cmpR oGe (pe_callB cLen (by rfl) T.b_len (by decide +kernel) (pa_cons (pe_fld (pv 0) rfl) pa_nil)) (pe_gv T.g_MOST_RECORDS) (by first | rfl | exact nomark _))))) (pss_one (ps_rzN T.x_BadTick (L2N.takes_of rfl rfl rfl rfl))) pss_nil)
  (pss_cons (ps_expr (pe_f D_need_text hr (by decide) passEN (pa_cons (pv 2) pa_nil)))
  (pss_cons (ps_expr (pe_bm PySem.F.plainAttrs_list PySem.F.slot_list_append PySem.F.type_list_append mt_append (pe_fld (pv 0) rfl) (pa_cons (pe_tup (pa_cons (pe_op oAdd (pe_o0 D_Tape_length hr (by decide) pass0 (pv 0)) (pv 1)) (pa_cons (pv 2) pa_nil))) pa_nil)))
  (pss_one (ps_fld (pv 0) (pe_lst pa_nil) rfl)))))

abbrev M_Tape_undo : List Str := ["self"]
theorem sc_Tape_undo : FnScope M_Tape_undo ["self"] (defScope st_Tape_undo) := ⟨rfl, rfl, rfl, by decide +kernel, rfl, by decide +kernel, by decide +kernel⟩
theorem ok_Tape_undo {f : Addr} {fd : FuncData} (F : Fun c.K "undo" "Tape.undo" st_Tape_undo f fd) (T : Txt c mg) (R : RD M_Tape_undo (t_Tape_undo c) (sp_Tape_undo c)) (Rl : ∀ vs H Q E, sp_Tape_undo c vs H Q E → vs.length = 1) : FnOk P w c.K mg base (L2N.CX P w) 1 f fd ["self"] (sp_Tape_undo c) := by
  have nd := sc_Tape_undo.nd
  refine funOkN F sc_Tape_undo Rl (fun cdv A outer s H vs Q E hr h => ⟨t_Tape_undo c E, ?_, R vs H Q E h⟩)
  exact (pss_cons (ps_if (pt_cmpR (oEq hr.units) (pe_fld (pv 0) rfl) (pe_lst pa_nil) (by first | rfl | exact nomark _)) (pss_one (ps_rzN T.x_Nothing (L2N.takes_of rfl rfl rfl rfl))) pss_nil)
  (pss_one (ps_expr (pe_bm PySem.F.plainAttrs_list PySem.F.slot_list_append PySem.F.type_list_append mt_append (pe_fld (pv 0) rfl) (pa_cons (pe_bm0 PySem.F.plainAttrs_list PySem.F.slot_list_pop PySem.F.type_list_pop mt_pop (pe_fld (pv 0) rfl)) pa_nil)))))

abbrev M_Tape_length : List Str := ["self"]
theorem sc_Tape_length : FnScope M_Tape_length ["self"] (defScope st_Tape_length) := ⟨rfl, rfl, rfl, by decide +kernel, rfl, by decide +kernel, by decide +kernel⟩
theorem ok_Tape_length {f : Addr} {fd : FuncData} (F : Fun c.K "length" "Tape.length" st_Tape_length f fd) (T : Txt c mg) (R : RD M_Tape_length (t_Tape_length c) (sp_Tape_length c)) (Rl : ∀ vs H Q E, sp_Tape_length c vs H Q E → vs.length = 1) : FnOk P w c.K mg base CX0 1 f fd ["self"] (sp_Tape_length c) := by
  have nd := sc_Tape_length.nd
  refine F.ok sc_Tape_length Rl (fun cdv A outer s H vs Q E hr h => ⟨t_Tape_length c E, ?_, R vs H Q E h⟩)
  exact (pss_one (ps_ret (pe_ifExp (pt_cmpR (oNe hr.units) (pe_fld (pv 0) rfl) (pe_lst pa_nil) (by first | rfl | exact nomark _)) (pe_ix iIx (pe_ix iIx (pe_fld (pv 0) rfl) (pe_un un_neg pe_int) (fun _ _ => rfl)) pe_int (fun _ _ => rfl)) pe_int)))

abbrev M_Tape_records : List Str := ["self"]
theorem sc_Tape_records : FnScope M_Tape_records ["self"] (defScope st_Tape_records) := ⟨rfl, rfl, rfl, by decide +kernel, rfl, by decide +kernel, by decide +kernel⟩
theorem ok_Tape_records {f : Addr} {fd : FuncData} (F : Fun c.K "records" "Tape.records" st_Tape_records f fd) (T : Txt c mg) (R : RD M_Tape_records (t_Tape_records c) (sp_Tape_records c)) (Rl : ∀ vs H Q E, sp_Tape_records c vs H Q E → vs.length = 1) : FnOk P w c.K mg base CX0 1 f fd ["self"] (sp_Tape_records c) := by
  have nd := sc_Tape_records.nd
  refine F.ok sc_Tape_records Rl (fun cdv A outer s H vs Q E hr h => ⟨t_Tape_records c E, ?_, R vs H Q E h⟩)
  exact (pss_one (ps_ret (pe_callTy cList (by rfl) T.b_list (by decide +kernel) (pa_cons (pe_fld (pv 0) rfl) pa_nil))))

abbrev M_Tape_need_tick : List Str := ["self", "tick"]
theorem sc_Tape_need_tick : FnScope M_Tape_need_tick ["self", "tick"] (defScope st_Tape_need_tick) := ⟨rfl, rfl, rfl, by decide +kernel, rfl, by decide +kernel, by decide +kernel⟩
theorem ok_Tape_need_tick {f : Addr} {fd : FuncData} (F : Fun c.K "need_tick" "Tape.need_tick" st_Tape_need_tick f fd) (T : Txt c mg) (R : RD M_Tape_need_tick (t_Tape_need_tick c) (sp_Tape_need_tick c)) (Rl : ∀ vs H Q E, sp_Tape_need_tick c vs H Q E → vs.length = 2) (D_is_count : DefX P w c.K mg base CX0 "is_count" 1 ["thing", "least", "most"] (sp_is_count c)) (D_Tape_length : MethX P w c.K mg base CX0 c.cTape "length" 1 ["self"] (sp_Tape_length c)) : FnOk P w c.K mg base (L2N.CX P w) 2 f fd ["self", "tick"] (sp_Tape_need_tick c) := by
  have nd := sc_Tape_need_tick.nd
  refine funOkN F sc_Tape_need_tick Rl (fun cdv A outer s H vs Q E hr h => ⟨t_Tape_need_tick c E, ?_, R vs H Q E h⟩)
  exact (pss_one (ps_if (pt_not (pt_val (pe_f D_is_count hr (by decide) pass0 (pa_cons (pv 1) (pa_cons pe_int (pa_cons (pe_o0 D_Tape_length hr (by decide) pass0 (pv 0)) pa_nil)))))) (pss_one (ps_rzN T.x_BadTick (L2N.takes_of rfl rfl rfl rfl))) pss_nil))

abbrev M_Tape_screen_behind : List Str := ["self", "tick", "wide", "high", "most", "screen", "own", "text"]
theorem sc_Tape_screen_behind : FnScope M_Tape_screen_behind ["self", "tick"] (defScope st_Tape_screen_behind) := ⟨rfl, rfl, rfl, by decide +kernel, rfl, by decide +kernel, by decide +kernel⟩
theorem ok_Tape_screen_behind {f : Addr} {fd : FuncData} (F : Fun c.K "screen_behind" "Tape.screen_behind" st_Tape_screen_behind f fd) (T : Txt c mg) (R : RD M_Tape_screen_behind (t_Tape_screen_behind c) (sp_Tape_screen_behind c)) (Rl : ∀ vs H Q E, sp_Tape_screen_behind c vs H Q E → vs.length = 2) (D_Screen_init : InitX P w c.K mg base (L2N.CX P w) "Screen" c.cScreen 5 ["self", "wide", "high", "most"] (sp_Screen_init c)) (D_Screen_feed : MethX P w c.K mg base (L2N.CX P w) c.cScreen "feed" 10 ["self", "text"] (sp_Screen_feed c)) : FnOk P w c.K mg base (L2N.CX P w) 11 f fd ["self", "tick"] (sp_Tape_screen_behind c) := by
  have nd := sc_Tape_screen_behind.nd
  refine funOkN F sc_Tape_screen_behind Rl (fun cdv A outer s H vs Q E hr h => ⟨t_Tape_screen_behind c E, ?_, R vs H Q E h⟩)
  exact (pss_cons (ps_asg (pe_fld (pv 0) rfl) (pg_tup (by rfl) (pgs_cons (pg_name (i := 2) nd rfl (by first | exact Or.inl rfl | exact Or.inr rfl)) (pgs_cons (pg_name (i := 3) nd rfl (by first | exact Or.inl rfl | exact Or.inr rfl)) (pgs_cons (pg_name (i := 4) nd rfl (by first | exact Or.inl rfl | exact Or.inr rfl)) pgs_nil)))))
  (pss_cons (ps_set (i := 5) nd rfl (by first | exact Or.inl rfl | exact Or.inr rfl) (pe_n D_Screen_init hr (by decide) passEN (pa_cons (pv 2) (pa_cons (pv 3) (pa_cons (pv 4) pa_nil)))))
  (pss_cons (ps_for (passes_of rfl) rfl (pi_list (pe_fld (pv 0) rfl)) (pg_tup (by rfl) (pgs_cons (pg_name (i := 6) nd rfl (by first | exact Or.inl rfl | exact Or.inr rfl)) (pgs_cons (pg_name (i := 7) nd rfl (by first | exact Or.inl rfl | exact Or.inr rfl)) pgs_nil))) (pss_one (ps_if (pt_cmpR oLe (pv 6) (pv 1) (by first | rfl | exact nomark _)) (pss_one (ps_expr (pe_o D_Screen_feed hr (by decide) passEN (pv 5) (pa_cons (pv 7) pa_nil)))) pss_nil)))
  (pss_one (ps_ret (pv 5))))))

abbrev M_Tape_page_at : List Str := ["self", "tick"]
theorem sc_Tape_page_at : FnScope M_Tape_page_at ["self", "tick"] (defScope st_Tape_page_at) := ⟨rfl, rfl, rfl, by decide +kernel, rfl, by decide +kernel, by decide +kernel⟩
theorem ok_Tape_page_at {f : Addr} {fd : FuncData} (F : Fun c.K "page_at" "Tape.page_at" st_Tape_page_at f fd) (T : Txt c mg) (R : RD M_Tape_page_at (t_Tape_page_at c) (sp_Tape_page_at c)) (Rl : ∀ vs H Q E, sp_Tape_page_at c vs H Q E → vs.length = 2) (D_Tape_need_tick : MethX P w c.K mg base (L2N.CX P w) c.cTape "need_tick" 2 ["self", "tick"] (sp_Tape_need_tick c)) (D_Screen_page : MethX P w c.K mg base CX0 c.cScreen "page" 1 ["self"] (sp_Screen_page c)) (D_Tape_screen_behind : MethX P w c.K mg base (L2N.CX P w) c.cTape "screen_behind" 11 ["self", "tick"] (sp_Tape_screen_behind c)) : FnOk P w c.K mg base (L2N.CX P w) 12 f fd ["self", "tick"] (sp_Tape_page_at c) := by
  have nd := sc_Tape_page_at.nd
  refine funOkN F sc_Tape_page_at Rl (fun cdv A outer s H vs Q E hr h => ⟨t_Tape_page_at c E, ?_, R vs H Q E h⟩)
  exact (pss_cons (ps_expr (pe_o D_Tape_need_tick hr (by decide) passEN (pv 0) (pa_cons (pv 1) pa_nil)))
  (pss_one (ps_ret (pe_o0 D_Screen_page hr (by decide) pass0 (pe_o D_Tape_screen_behind hr (by decide) passEN (pv 0) (pa_cons (pv 1) pa_nil))))))

abbrev M_Tape_cursor_at : List Str := ["self", "tick"]
theorem sc_Tape_cursor_at : FnScope M_Tape_cursor_at ["self", "tick"] (defScope st_Tape_cursor_at) := ⟨rfl, rfl, rfl, by decide +kernel, rfl, by decide +kernel, by decide +kernel⟩
theorem ok_Tape_cursor_at {f : Addr} {fd : FuncData} (F : Fun c.K "cursor_at" "Tape.cursor_at" st_Tape_cursor_at f fd) (T : Txt c mg) (R : RD M_Tape_cursor_at (t_Tape_cursor_at c) (sp_Tape_cursor_at c)) (Rl : ∀ vs H Q E, sp_Tape_cursor_at c vs H Q E → vs.length = 2) (D_Tape_need_tick : MethX P w c.K mg base (L2N.CX P w) c.cTape "need_tick" 2 ["self", "tick"] (sp_Tape_need_tick c)) (D_Screen_cursor : MethX P w c.K mg base CX0 c.cScreen "cursor" 1 ["self"] (sp_Screen_cursor c)) (D_Tape_screen_behind : MethX P w c.K mg base (L2N.CX P w) c.cTape "screen_behind" 11 ["self", "tick"] (sp_Tape_screen_behind c)) : FnOk P w c.K mg base (L2N.CX P w) 12 f fd ["self", "tick"] (sp_Tape_cursor_at c) := by
  have nd := sc_Tape_cursor_at.nd
  refine funOkN F sc_Tape_cursor_at Rl (fun cdv A outer s H vs Q E hr h => ⟨t_Tape_cursor_at c E, ?_, R vs H Q E h⟩)
  exact (pss_cons (ps_expr (pe_o D_Tape_need_tick hr (by decide) passEN (pv 0) (pa_cons (pv 1) pa_nil)))
  (pss_one (ps_ret (pe_o0 D_Screen_cursor hr (by decide) pass0 (pe_o D_Tape_screen_behind hr (by decide) passEN (pv 0) (pa_cons (pv 1) pa_nil))))))

abbrev M_Tape_changes_at : List Str := ["self", "tick"]
theorem sc_Tape_changes_at : FnScope M_Tape_changes_at ["self", "tick"] (defScope st_Tape_changes_at) := ⟨rfl, rfl, rfl, by decide +kernel, rfl, by decide +kernel, by decide +kernel⟩
theorem ok_Tape_changes_at {f : Addr} {fd : FuncData} (F : Fun c.K "changes_at" "Tape.changes_at" st_Tape_changes_at f fd) (T : Txt c mg) (R : RD M_Tape_changes_at (t_Tape_changes_at c) (sp_Tape_changes_at c)) (Rl : ∀ vs H Q E, sp_Tape_changes_at c vs H Q E → vs.length = 2) (D_Tape_need_tick : MethX P w c.K mg base (L2N.CX P w) c.cTape "need_tick" 2 ["self", "tick"] (sp_Tape_need_tick c)) (D_changes : DefX P w c.K mg base (L2N.CX P w) "changes" 5 ["page", "other"] (sp_changes c)) (D_Screen_page : MethX P w c.K mg base CX0 c.cScreen "page" 1 ["self"] (sp_Screen_page c)) (D_Tape_screen_behind : MethX P w c.K mg base (L2N.CX P w) c.cTape "screen_behind" 11 ["self", "tick"] (sp_Tape_screen_behind c)) : FnOk P w c.K mg base (L2N.CX P w) 12 f fd ["self", "tick"] (sp_Tape_changes_at c) := by
  have nd := sc_Tape_changes_at.nd
  refine funOkN F sc_Tape_changes_at Rl (fun cdv A outer s H vs Q E hr h => ⟨t_Tape_changes_at c E, ?_, R vs H Q E h⟩)
  exact (pss_cons (ps_expr (pe_o D_Tape_need_tick hr (by decide) passEN (pv 0) (pa_cons (pv 1) pa_nil)))
  (pss_one (ps_ret (pe_f D_changes hr (by decide) passEN (pa_cons (pe_o0 D_Screen_page hr (by decide) pass0 (pe_o D_Tape_screen_behind hr (by decide) passEN (pv 0) (pa_cons (pe_op oSub (pv 1) pe_int) pa_nil))) (pa_cons (pe_o0 D_Screen_page hr (by decide) pass0 (pe_o D_Tape_screen_behind hr (by decide) passEN (pv 0) (pa_cons (pv 1) pa_nil))) pa_nil))))))

abbrev M_Tape_first_with : List Str := ["self", "word", "sign", "tick", "text", "row", "cells", "column", "cell"]
theorem sc_Tape_first_with : FnScope M_Tape_first_with ["self", "word"] (defScope st_Tape_first_with) := ⟨rfl, rfl, rfl, by decide +kernel, rfl, by decide +kernel, by decide +kernel⟩
theorem ok_Tape_first_with {f : Addr} {fd : FuncData} (F : Fun c.K "first_with" "Tape.first_with" st_Tape_first_with f fd) (T : Txt c mg) (R : RD M_Tape_first_with (t_Tape_first_with c) (sp_Tape_first_with c)) (Rl : ∀ vs H Q E, sp_Tape_first_with c vs H Q E → vs.length = 2) (D_is_sign : DefX P w c.K mg base CX0 "is_sign" 1 ["sign"] (sp_is_sign c)) (D_Screen_page : MethX P w c.K mg base CX0 c.cScreen "page" 1 ["self"] (sp_Screen_page c)) (D_Tape_screen_behind : MethX P w c.K mg base (L2N.CX P w) c.cTape "screen_behind" 11 ["self", "tick"] (sp_Tape_screen_behind c)) : FnOk P w c.K mg base (L2N.CX P w) 12 f fd ["self", "word"] (sp_Tape_first_with c) := by
  have nd := sc_Tape_first_with.nd
  refine funOkN F sc_Tape_first_with Rl (fun cdv A outer s H vs Q E hr h => ⟨t_Tape_first_with c E, ?_, R vs H Q E h⟩)
  exact (pss_cons (ps_if (PW.pt (pw_or (pt_not (pt_val (pe_isTy (pv 1) (by rfl) T.b_isinstance (by rfl) T.b_str (by decide +kernel)))) (pw_or1 (pt_not (pt_chain oLe oLe pe_int (pe_callB cLen (by rfl) T.b_len (by decide +kernel) (pa_cons (pv 1) pa_nil)) (pe_gv T.g_MOST_WORD)))))) (pss_one (ps_rzN T.x_BadText (L2N.takes_of rfl rfl rfl rfl))) pss_nil)
  (pss_cons (ps_if (pt_not (pt_val (pe_callB (cr_all rfl) (by rfl) T.b_all (by decide +kernel) (pa_cons (pe_lc (own := [("sign", 2)]) (g := (gName 2)) (tt := tYes) (te := (tAndV (tOp (uNe c.K) (tVar 2) (tC (v_GAP c))) (tF (sp_is_sign c) E0 (tCons (tVar 2) tNil)))) rfl nd (pi_str (pv 1)) (blkOk_by (own := [("sign", 2)]) (N := M_Tape_first_with) (sc := (defScope st_Tape_first_with)) (by decide +kernel)) (fun _ _ _ _ _ => (pg_name (i := 2) nd rfl (by first | exact Or.inl rfl | exact Or.inr rfl))) (fun _ _ _ _ _ => pts_nil) (fun _ _ _ _ _ => (pe_and (pe_cmpR (oNe hr.units) (pv 2) (pe_gv T.g_GAP) (by first | rfl | exact nomark _)) (pe_one (pe_f D_is_sign hr (by decide) pass0 (pa_cons (pv 2) pa_nil)))))) pa_nil)))) (pss_one (ps_rzN T.x_BadText (L2N.takes_of rfl rfl rfl rfl))) pss_nil)
  (pss_cons (ps_for (passes_of rfl) rfl (pi_list (pe_op oAdd (pe_lst (pa_cons (pe_tup (pa_cons pe_int (pa_cons (pe_sc (by decide +kernel)) pa_nil))) pa_nil)) (pe_fld (pv 0) rfl))) (pg_tup (by rfl) (pgs_cons (pg_name (i := 3) nd rfl (by first | exact Or.inl rfl | exact Or.inr rfl)) (pgs_cons (pg_name (i := 4) nd rfl (by first | exact Or.inl rfl | exact Or.inr rfl)) pgs_nil))) (pss_one (ps_for (passes_of rfl) rfl (pi_enum (by rfl) T.b_enumerate (pa_cons (pe_o0 D_Screen_page hr (by decide) pass0 (pe_o D_Tape_screen_behind hr (by decide) passEN (pv 0) (pa_cons (pv 3) pa_nil))) pa_nil)) (pg_tup (by rfl) (pgs_cons (pg_name (i := 5) nd rfl (by first | exact Or.inl rfl | exact Or.inr rfl)) (pgs_cons (pg_name (i := 6) nd rfl (by first | exact Or.inl rfl | exact Or.inr rfl)) pgs_nil))) (pss_cons (ps_set (i := 7) nd rfl (by first | exact Or.inl rfl | exact Or.inr rfl) (pe_ufind (pe_ujoin (pe_sc (by decide +kernel)) (pe_lc (own := [("cell", 8)]) (g := (gName 8)) (tt := tYes) (te := (tOp (uIx c.K) (tVar 8) (tC (.int 0)))) rfl nd (pi_list (pv 6)) (blkOk_by (own := [("cell", 8)]) (N := M_Tape_first_with) (sc := (defScope st_Tape_first_with)) (by decide +kernel)) (fun _ _ _ _ _ => (pg_name (i := 8) nd rfl (by first | exact Or.inl rfl | exact Or.inr rfl))) (fun _ _ _ _ _ => pts_nil) (fun _ _ _ _ _ => (pe_ix iIx (pv 8) pe_int (fun _ _ => rfl))))) (pv 1)))
  (pss_one (ps_if (pt_cmpR oGe (pv 7) pe_int (by first | rfl | exact nomark _)) (pss_one (ps_ret (pe_tup (pa_cons (pv 3) (pa_cons (pv 5) (pa_cons (pv 7) pa_nil)))))) pss_nil))))))
  (pss_one (ps_ret pe_non)))))

abbrev M__law_cell : List Str := ["_law_script", "_law_k"]
theorem sc__law_cell : FnScope M__law_cell ["_law_script", "_law_k"] (defScope st__law_cell) := ⟨rfl, rfl, rfl, by decide +kernel, rfl, by decide +kernel, by decide +kernel⟩
theorem ok__law_cell {f : Addr} {fd : FuncData} (F : Fun c.K "_law_cell" "_law_cell" st__law_cell f fd) (T : Txt c mg) (R : RD M__law_cell (t__law_cell c) (sp__law_cell c)) (Rl : ∀ vs H Q E, sp__law_cell c vs H Q E → vs.length = 2) : FnOk P w c.K mg base CX0 1 f fd ["_law_script", "_law_k"] (sp__law_cell c) := by
  have nd := sc__law_cell.nd
  refine F.ok sc__law_cell Rl (fun cdv A outer s H vs Q E hr h => ⟨t__law_cell c E, ?_, R vs H Q E h⟩)
  exact (pss_cons (ps_if (pt_cmpR (oEq hr.units) (pv 0) (pe_lst pa_nil) (by first | rfl | exact nomark _)) (pss_one (ps_ret (pe_op oMul (pv 1) pe_int))) pss_nil)
  (pss_one (ps_ret (pe_op oAdd (pe_ix iIx (pv 0) (pe_op oMod (pv 1) (pe_callB cLen (by rfl) T.b_len (by decide +kernel) (pa_cons (pv 0) pa_nil))) (fun _ _ => rfl)) (pe_op oMul (pe_op oDiv (pv 1) (pe_callB cLen (by rfl) T.b_len (by decide +kernel) (pa_cons (pv 0) pa_nil))) pe_int)))))

abbrev M__law_drawn : List Str := ["_law_cell_here", "_law_k", "_law_more"]
theorem sc__law_drawn : FnScope M__law_drawn ["_law_cell_here", "_law_k"] (defScope st__law_drawn) := ⟨rfl, rfl, rfl, by decide +kernel, rfl, by decide +kernel, by decide +kernel⟩
theorem ok__law_drawn {f : Addr} {fd : FuncData} (F : Fun c.K "_law_drawn" "_law_drawn" st__law_drawn f fd) (T : Txt c mg) (R : RD M__law_drawn (t__law_drawn c) (sp__law_drawn c)) (Rl : ∀ vs H Q E, sp__law_drawn c vs H Q E → vs.length = 2) : FnOk P w c.K mg base CX0 1 f fd ["_law_cell_here", "_law_k"] (sp__law_drawn c) := by
  have nd := sc__law_drawn.nd
  refine F.ok sc__law_drawn Rl (fun cdv A outer s H vs Q E hr h => ⟨t__law_drawn c E, ?_, R vs H Q E h⟩)
  exact (pss_cons (ps_set (i := 2) nd rfl (by first | exact Or.inl rfl | exact Or.inr rfl) (pe_op oMod (pe_op oAdd (pe_op oMul (pv 0) pe_int) (pe_op oMul (pe_op oAdd (pv 1) pe_int) pe_int)) pe_int))
  (pss_cons (ps_set (i := 2) nd rfl (by first | exact Or.inl rfl | exact Or.inr rfl) (pe_op oMod (pe_op oMul (pv 2) (pv 2)) pe_int))
  (pss_cons (ps_set (i := 2) nd rfl (by first | exact Or.inl rfl | exact Or.inr rfl) (pe_op oMul (pe_op oMul (pe_op oAdd (pe_op oMod (pv 2) pe_int) pe_int) (pe_op oAdd (pe_op oDiv (pv 2) pe_int) pe_int)) (pv 2)))
  (pss_one (ps_ret (pe_op oMod (pv 2) pe_int))))))

abbrev M_law : List Str := ["_law_script", "_law_k", "_law_more", "_law_some", "_law_wide", "_law_high", "_law_most", "_law_tape", "_law_bad", "_law_j", "_law_rows"]
theorem sc__law_told : FnScope ["_law_deed", "_law_e"] ["_law_deed"] (defScope st__law_told) := ⟨rfl, rfl, rfl, by decide +kernel, rfl, by decide +kernel, by decide +kernel⟩
theorem sc__law_word : FnScope ["_law_e", "_law_flags", "_law_words"] ["_law_e"] (defScope st__law_word) := ⟨rfl, rfl, rfl, by decide +kernel, rfl, by decide +kernel, by decide +kernel⟩
theorem word_ok {f : Addr} {fd : FuncData} {CS : Addr} (F : Fun c.K "_law_word" "_law_word" st__law_word f fd) (T : Txt c mg) (hm : mg "_law_word" = some (.ref f)) (BO : BadsOk c.K (bads7 c) CS) : WordOk P w c.K mg base (bads7 c) := by
  have nd := sc__law_word.nd
  refine word_of (tw := tw7 c) F hm sc__law_word (F.binds (ps := ["_law_e"]) (fun _ _ _ _ _ _ us hl => match us, hl with | [_], _ => rfl)) BO (fun cdv A outer s H p D hr hot hz hd ex => ?_) (rd_word7 BO)
  exact (pss_cons (ps_set (i := 1) nd rfl (by first | exact Or.inl rfl | exact Or.inr rfl) (pe_lst (pa_cons (pe_callB (cr_isP (List.mem_singleton.mpr rfl) hz hd ex) (by rfl) T.b_isinstance (by decide +kernel) (pa_cons (pv 0) (pa_cons (pe_glob (by rfl) T.x_BadPage.g rfl) pa_nil))) (pa_cons (pe_callB (cr_isP (List.mem_singleton.mpr rfl) hz hd ex) (by rfl) T.b_isinstance (by decide +kernel) (pa_cons (pv 0) (pa_cons (pe_glob (by rfl) T.x_BadPlace.g rfl) pa_nil))) (pa_cons (pe_callB (cr_isP (List.mem_singleton.mpr rfl) hz hd ex) (by rfl) T.b_isinstance (by decide +kernel) (pa_cons (pv 0) (pa_cons (pe_glob (by rfl) T.x_BadSize.g rfl) pa_nil))) (pa_cons (pe_callB (cr_isP (List.mem_singleton.mpr rfl) hz hd ex) (by rfl) T.b_isinstance (by decide +kernel) (pa_cons (pv 0) (pa_cons (pe_glob (by rfl) T.x_BadText.g rfl) pa_nil))) pa_nil))))))
  (pss_cons (ps_set (i := 1) nd rfl (by first | exact Or.inl rfl | exact Or.inr rfl) (pe_op oAdd (pv 1) (pe_lst (pa_cons (pe_callB (cr_isP (List.mem_singleton.mpr rfl) hz hd ex) (by rfl) T.b_isinstance (by decide +kernel) (pa_cons (pv 0) (pa_cons (pe_glob (by rfl) T.x_BadPane.g rfl) pa_nil))) (pa_cons (pe_callB (cr_isP (List.mem_singleton.mpr rfl) hz hd ex) (by rfl) T.b_isinstance (by decide +kernel) (pa_cons (pv 0) (pa_cons (pe_glob (by rfl) T.x_BadTick.g rfl) pa_nil))) (pa_cons (pe_callB (cr_isP (List.mem_singleton.mpr rfl) hz hd ex) (by rfl) T.b_isinstance (by decide +kernel) (pa_cons (pv 0) (pa_cons (pe_glob (by rfl) T.x_Nothing.g rfl) pa_nil))) pa_nil))))))
  (pss_cons (ps_if (PW.pt (pw_or (pt_cmpR (oNe hr.units) (pe_callB (cr_sumHot hot) (by rfl) T.b_sum (by decide +kernel) (pa_cons (pe_bits hot rfl (Or.inl rfl) T.b_int rfl (by decide +kernel) (by decide +kernel) (by decide +kernel) rfl rfl) pa_nil)) pe_int (by first | rfl | exact nomark _)) (pw_or1 (pt_not (pt_val (pe_callB (cr_isP (List.mem_singleton.mpr rfl) hz hd ex) (by rfl) T.b_isinstance (by decide +kernel) (pa_cons (pv 0) (pa_cons (pe_bltn (u := .type "ValueError") (by rfl) T.b_ValueError (by decide +kernel) rfl) pa_nil)))))))) (pss_one (ps_ret (pe_tup (pa_cons (pe_sc (by decide +kernel)) (pa_cons (pe_sc (by decide +kernel)) pa_nil))))) pss_nil)
  (pss_cons (ps_set (i := 2) nd rfl (by first | exact Or.inl rfl | exact Or.inr rfl) (pe_lst (pa_cons (pe_sc (by decide +kernel)) (pa_cons (pe_sc (by decide +kernel)) (pa_cons (pe_sc (by decide +kernel)) (pa_cons (pe_sc (by decide +kernel)) (pa_cons (pe_sc (by decide +kernel)) (pa_cons (pe_sc (by decide +kernel)) (pa_cons (pe_sc (by decide +kernel)) pa_nil)))))))))
  (pss_one (ps_ret (pe_tup (pa_cons (pe_sc (by decide +kernel)) (pa_cons (pe_ix iIx (pv 2) (pe_bm PySem.F.plainAttrs_list PySem.F.slot_list_index PySem.F.type_list_index mt_index (pv 1) (pa_cons pe_bl pa_nil)) (fun _ _ => rfl)) pa_nil)))))))))
theorem toldOkN {f : Addr} {fd : FuncData} {CS : Addr} (W : WordOk P w c.K mg base (bads7 c)) (BO : BadsOk c.K (bads7 c) CS) (F : Fun c.K "_law_told" "_law_told" st__law_told f fd) (g : mg "_law_told" = some (.ref f)) (gE : mg "ScreenError" = some (.ref CS)) :
    ToldN P w c.K mg base (defArgs st__law_told) (defBody st__law_told) (defScope st__law_told) (bads7 c) :=
  toldN_of W BO F g gE (F.binds (ps := ["_law_deed"]) (fun _ _ _ _ _ _ us hl => match us, hl with | [_], _ => rfl)) sc__law_told (Or.inl rfl) fun X W BO gE g cdg q => told1_gives (n := "_law_e") (e := "ScreenError") (CS := CS) W BO (by decide +kernel) rfl (by kernel_rfl) (by kernel_rfl) gE (by decide) (by kernel_rfl) (by decide) (by decide) (fun _ => rfl) (by decide)
theorem sc_law : FnScope M_law ["_law_script"] (defScope st_law) := ⟨rfl, rfl, rfl, by decide +kernel, rfl, by decide +kernel, by decide +kernel⟩
theorem ok_law {f : Addr} {fd : FuncData} (F : Fun c.K "law" "law" st_law f fd) {cL Pt : Addr} (hc : fd.code = .ref cL) (hT : c.tabs = [(Pt, (("law" : Str) ++ ".<locals>.") ++ "<lambda>")]) (TB : LamX.TabB base mg cL Pt) (TOLD : ToldN P w c.K mg base (defArgs st__law_told) (defBody st__law_told) (defScope st__law_told) (bads7 c)) (T : Txt c mg) (R : RD M_law (t_law c) (sp_law c)) (Rl : ∀ vs H Q E, sp_law c vs H Q E → vs.length = 1) (D__law_drawn : DefX P w c.K mg base CX0 "_law_drawn" 1 ["_law_cell_here", "_law_k"] (sp__law_drawn c)) (D__law_cell : DefX P w c.K mg base CX0 "_law_cell" 1 ["_law_script", "_law_k"] (sp__law_cell c)) (D_Tape_init : InitX P w c.K mg base (L2N.CX P w) "Tape" c.cTape 7 ["self", "wide", "high", "most"] (sp_Tape_init c)) (D_Tape_record : MethX P w c.K mg base (L2N.CX P w) c.cTape "record" 3 ["self", "ticks", "text"] (sp_Tape_record c)) (D_Tape_records : MethX P w c.K mg base CX0 c.cTape "records" 1 ["self"] (sp_Tape_records c)) (D_Tape_undo : MethX P w c.K mg base (L2N.CX P w) c.cTape "undo" 1 ["self"] (sp_Tape_undo c)) (D_Tape_length : MethX P w c.K mg base CX0 c.cTape "length" 1 ["self"] (sp_Tape_length c)) (D_Tape_page_at : MethX P w c.K mg base (L2N.CX P w) c.cTape "page_at" 12 ["self", "tick"] (sp_Tape_page_at c)) (D_Tape_cursor_at : MethX P w c.K mg base (L2N.CX P w) c.cTape "cursor_at" 12 ["self", "tick"] (sp_Tape_cursor_at c)) (D_Tape_changes_at : MethX P w c.K mg base (L2N.CX P w) c.cTape "changes_at" 12 ["self", "tick"] (sp_Tape_changes_at c)) (D_Tape_first_with : MethX P w c.K mg base (L2N.CX P w) c.cTape "first_with" 12 ["self", "word"] (sp_Tape_first_with c)) : FnOk P w c.K mg base CX0 15 f fd ["_law_script"] (sp_law c) := by
  have nd := sc_law.nd
  obtain ⟨oc, od, kV, doc, pm, an, cdv, ct, osl, rfl, lk, hcq⟩ := F.ex
  have hc' : cdv = .ref cL := hc
  subst hc'
  refine fn_of lk hcq sc_law Rl fun A outer s H vs Q E hr h => ⟨t_law c E, PSs.nox ?_, R vs H Q E h⟩
  have hcd : (cxOf CX0 P w c.K mg base M_law "law" (defScope st_law) f (.ref cL) A outer s H E).nox.env.code = .ref cL := rfl
  exact (pss_cons (ps_for PassesOwn.never rfl (pi_range1 (by rfl) T.b_range (pa_cons (pe_callB (cMax rfl) (by rfl) T.b_max (by decide +kernel) (pa_cons pe_int (pa_cons (pe_callB (cMin rfl) (by rfl) T.b_min (by decide +kernel) (pa_cons pe_int (pa_cons (pe_callB cLen (by rfl) T.b_len (by decide +kernel) (pa_cons (pv 0) pa_nil)) pa_nil))) pa_nil))) pa_nil)) (pg_name (i := 1) nd rfl (by first | exact Or.inl rfl | exact Or.inr rfl)) (pss_cons (ps_set (i := 2) nd rfl (by first | exact Or.inl rfl | exact Or.inr rfl) (pe_f D__law_drawn hr (by decide) pass0 (pa_cons (pe_f D__law_cell hr (by decide) pass0 (pa_cons (pv 0) (pa_cons (pv 1) pa_nil))) (pa_cons (pv 1) pa_nil))))
  (pss_cons (ps_set (i := 3) nd rfl (by first | exact Or.inl rfl | exact Or.inr rfl) (pe_lst (pa_cons (pe_tup (pa_cons pe_int (pa_cons pe_int (pa_cons pe_int pa_nil)))) (pa_cons (pe_tup (pa_cons pe_int (pa_cons pe_int (pa_cons pe_int pa_nil)))) (pa_cons (pe_tup (pa_cons pe_int (pa_cons pe_int (pa_cons pe_int pa_nil)))) (pa_cons (pe_tup (pa_cons pe_int (pa_cons pe_int (pa_cons pe_int pa_nil)))) (pa_cons (pe_tup (pa_cons pe_int (pa_cons pe_int (pa_cons (pe_un un_neg pe_int) pa_nil)))) (pa_cons (pe_tup (pa_cons pe_int (pa_cons pe_int (pa_cons pe_int pa_nil)))) (pa_cons (pe_tup (pa_cons pe_non (pa_cons pe_int (pa_cons pe_int pa_nil)))) pa_nil)))))))))
  (pss_cons (ps_for PassesOwn.never rfl (pi_list (pe_op oAdd (pv 3) (pe_lst (pa_cons (pe_tup (pa_cons pe_int (pa_cons pe_int (pa_cons pe_bl pa_nil)))) pa_nil)))) (pg_tup (by rfl) (pgs_cons (pg_name (i := 4) nd rfl (by first | exact Or.inl rfl | exact Or.inr rfl)) (pgs_cons (pg_name (i := 5) nd rfl (by first | exact Or.inl rfl | exact Or.inr rfl)) (pgs_cons (pg_name (i := 6) nd rfl (by first | exact Or.inl rfl | exact Or.inr rfl)) pgs_nil)))) (pss_one (ps_if (pt_cmpR (oNe hr.units) (pe_toldN (k := 12) TOLD TB hcd hT hr (LamX.lamS_by (sc := (defScope st_law)) (by decide +kernel)) rfl (fun _ _ _ _ _ => rfl) (fun A outer s H E f c' hr => (pe_n D_Tape_init hr (by decide) passLamN (pa_cons (pv 4) (pa_cons (pv 5) (pa_cons (pv 6) pa_nil)))))) (pe_tup (pa_cons (pe_sc (by decide +kernel)) (pa_cons (pe_sc (by decide +kernel)) pa_nil))) (by first | rfl | exact nomark _)) (pss_one (ps_ret pe_bl)) pss_nil)))
  (pss_cons (ps_set (i := 7) nd rfl (by first | exact Or.inl rfl | exact Or.inr rfl) (pe_n D_Tape_init hr (by decide) passLN (pa_cons pe_int (pa_cons pe_int (pa_cons pe_int pa_nil)))))
  (pss_cons (ps_for PassesOwn.never rfl (pi_list (pe_lst (pa_cons (pe_un un_neg pe_int) (pa_cons pe_int (pa_cons pe_non (pa_cons pe_bl (pa_cons (pe_sc (by decide +kernel)) pa_nil))))))) (pg_name (i := 8) nd rfl (by first | exact Or.inl rfl | exact Or.inr rfl)) (pss_one (ps_if (pt_cmpR (oNe hr.units) (pe_toldN (k := 12) TOLD TB hcd hT hr (LamX.lamS_by (sc := (defScope st_law)) (by decide +kernel)) rfl (fun _ _ _ _ _ => rfl) (fun A outer s H E f c' hr => (pe_o D_Tape_record hr (by decide) passLamN (pv 7) (pa_cons (pv 8) (pa_cons pe_non pa_nil))))) (pe_tup (pa_cons (pe_sc (by decide +kernel)) (pa_cons (pe_sc (by decide +kernel)) pa_nil))) (by first | rfl | exact nomark _)) (pss_one (ps_ret pe_bl)) pss_nil)))
  (pss_cons (ps_for PassesOwn.never rfl (pi_list (pe_lst (pa_cons pe_non (pa_cons pe_int (pa_cons (pe_op oMul (pe_sc (by decide +kernel)) pe_int) (pa_cons (pe_sc (by decide +kernel)) pa_nil)))))) (pg_name (i := 8) nd rfl (by first | exact Or.inl rfl | exact Or.inr rfl)) (pss_one (ps_if (pt_cmpR (oNe hr.units) (pe_toldN (k := 12) TOLD TB hcd hT hr (LamX.lamS_by (sc := (defScope st_law)) (by decide +kernel)) rfl (fun _ _ _ _ _ => rfl) (fun A outer s H E f c' hr => (pe_o D_Tape_record hr (by decide) passLamN (pv 7) (pa_cons (pe_op oMod (pv 2) pe_int) (pa_cons (pv 8) pa_nil))))) (pe_tup (pa_cons (pe_sc (by decide +kernel)) (pa_cons (pe_sc (by decide +kernel)) pa_nil))) (by first | rfl | exact nomark _)) (pss_one (ps_ret pe_bl)) pss_nil)))
  (pss_cons (ps_if (PW.pt (pw_or (pt_cmpR (oNe hr.units) (pe_o0 D_Tape_records hr (by decide) pass0 (pv 7)) (pe_lst pa_nil) (by first | rfl | exact nomark _)) (pw_or1 (pt_cmpR (oNe hr.units) (pe_toldN (k := 12) TOLD TB hcd hT hr (LamX.lamS_by (sc := (defScope st_law)) (by decide +kernel)) rfl (fun _ _ _ _ _ => rfl) (fun A outer s H E f c' hr => (pe_o0 D_Tape_undo hr (by decide) passLamN (pv 7)))) (pe_tup (pa_cons (pe_sc (by decide +kernel)) (pa_cons (pe_sc (by decide +kernel)) pa_nil))) (by first | rfl | exact nomark _))))) (pss_one (ps_ret pe_bl)) pss_nil)
  (pss_cons (ps_for PassesOwn.never rfl (pi_range1 (by rfl) T.b_range (pa_cons pe_int pa_nil)) (pg_name (i := 9) nd rfl (by first | exact Or.inl rfl | exact Or.inr rfl)) (pss_one (ps_expr (pe_o D_Tape_record hr (by decide) passLN (pv 7) (pa_cons pe_int (pa_cons (pe_sc (by decide +kernel)) pa_nil))))))
  (pss_cons (ps_if (PW.pt (pw_or (pt_cmpR (oNe hr.units) (pe_toldN (k := 12) TOLD TB hcd hT hr (LamX.lamS_by (sc := (defScope st_law)) (by decide +kernel)) rfl (fun _ _ _ _ _ => rfl) (fun A outer s H E f c' hr => (pe_o D_Tape_record hr (by decide) passLamN (pv 7) (pa_cons pe_int (pa_cons (pe_sc (by decide +kernel)) pa_nil))))) (pe_tup (pa_cons (pe_sc (by decide +kernel)) (pa_cons (pe_sc (by decide +kernel)) pa_nil))) (by first | rfl | exact nomark _)) (pw_or1 (pt_cmpR (oNe hr.units) (pe_o0 D_Tape_length hr (by decide) pass0 (pv 7)) pe_int (by first | rfl | exact nomark _))))) (pss_one (ps_ret pe_bl)) pss_nil)
  (pss_cons (ps_for PassesOwn.never rfl (pi_list (pe_lst (pa_cons (pe_un un_neg pe_int) (pa_cons pe_int (pa_cons pe_non (pa_cons pe_bl (pa_cons (pe_sc (by decide +kernel)) pa_nil))))))) (pg_name (i := 8) nd rfl (by first | exact Or.inl rfl | exact Or.inr rfl)) (pss_cons (ps_set (i := 10) nd rfl (by first | exact Or.inl rfl | exact Or.inr rfl) (pe_lst (pa_cons (pe_toldN (k := 12) TOLD TB hcd hT hr (LamX.lamS_by (sc := (defScope st_law)) (by decide +kernel)) rfl (fun _ _ _ _ _ => rfl) (fun A outer s H E f c' hr => (pe_o D_Tape_page_at hr (by decide) passLamN (pv 7) (pa_cons (pv 8) pa_nil)))) pa_nil)))
  (pss_cons (ps_expr (pe_bm PySem.F.plainAttrs_list PySem.F.slot_list_append PySem.F.type_list_append mt_append (pv 10) (pa_cons (pe_toldN (k := 12) TOLD TB hcd hT hr (LamX.lamS_by (sc := (defScope st_law)) (by decide +kernel)) rfl (fun _ _ _ _ _ => rfl) (fun A outer s H E f c' hr => (pe_o D_Tape_cursor_at hr (by decide) passLamN (pv 7) (pa_cons (pv 8) pa_nil)))) pa_nil)))
  (pss_cons (ps_expr (pe_bm PySem.F.plainAttrs_list PySem.F.slot_list_append PySem.F.type_list_append mt_append (pv 10) (pa_cons (pe_toldN (k := 12) TOLD TB hcd hT hr (LamX.lamS_by (sc := (defScope st_law)) (by decide +kernel)) rfl (fun _ _ _ _ _ => rfl) (fun A outer s H E f c' hr => (pe_o D_Tape_changes_at hr (by decide) passLamN (pv 7) (pa_cons (pv 8) pa_nil)))) pa_nil)))
  (pss_one (ps_if (pt_cmpR (oNe hr.units) (pv 10) (pe_op oMul (pe_lst (pa_cons (pe_tup (pa_cons (pe_sc (by decide +kernel)) (pa_cons (pe_sc (by decide +kernel)) pa_nil))) pa_nil)) pe_int) (by first | rfl | exact nomark _)) (pss_one (ps_ret pe_bl)) pss_nil))))))
  (pss_cons (ps_for PassesOwn.never rfl (pi_list (pe_lst (pa_cons pe_non (pa_cons (pe_sc (by decide +kernel)) (pa_cons pe_int (pa_cons (pe_op oMul (pe_sc (by decide +kernel)) pe_int) (pa_cons (pe_sc (by decide +kernel)) (pa_cons (pe_sc (by decide +kernel)) pa_nil)))))))) (pg_name (i := 8) nd rfl (by first | exact Or.inl rfl | exact Or.inr rfl)) (pss_one (ps_if (pt_cmpR (oNe hr.units) (pe_toldN (k := 12) TOLD TB hcd hT hr (LamX.lamS_by (sc := (defScope st_law)) (by decide +kernel)) rfl (fun _ _ _ _ _ => rfl) (fun A outer s H E f c' hr => (pe_o D_Tape_first_with hr (by decide) passLamN (pv 7) (pa_cons (pv 8) pa_nil)))) (pe_tup (pa_cons (pe_sc (by decide +kernel)) (pa_cons (pe_sc (by decide +kernel)) pa_nil))) (by first | rfl | exact nomark _)) (pss_one (ps_ret pe_bl)) pss_nil)))
  (pss_cons (ps_if (PW.pt (pw_or (pt_cmpR (oNe hr.units) (pe_o D_Tape_first_with hr (by decide) passLN (pv 7) (pa_cons (pe_op oMul (pe_sc (by decide +kernel)) pe_int) pa_nil)) (pe_tup (pa_cons pe_int (pa_cons pe_int (pa_cons pe_int pa_nil)))) (by first | rfl | exact nomark _)) (pw_or1 (pt_cmpR (oNe hr.units) (pe_o D_Tape_first_with hr (by decide) passLN (pv 7) (pa_cons (pe_sc (by decide +kernel)) pa_nil)) (pe_tup (pa_cons pe_int (pa_cons pe_int (pa_cons pe_int pa_nil)))) (by first | rfl | exact nomark _))))) (pss_one (ps_ret pe_bl)) pss_nil)
  (pss_one (ps_if (pt_cmpR oIsNot (pe_o D_Tape_first_with hr (by decide) passLN (pv 7) (pa_cons (pe_sc (by decide +kernel)) pa_nil)) pe_non (by first | rfl | exact nomark _)) (pss_one (ps_ret pe_bl)) pss_nil)))))))))))))))
  (pss_one (ps_ret pe_bl)))

end
theorem funD_fun {K : PySem.W.Frag} {x q : Str} {st : Stmt} {f : Addr} {fd : FuncData} (F : FunD K x q (defArgs st) (defBody st) (defScope st) [] [] f fd) : Fun K x q st f fd := by
  obtain ⟨oc, od, dV, kV, doc, pm, an, cdv, ct, osl, rfl, lk, hcd, hD, _⟩ := F.ex
  rcases hD with ⟨_, rfl⟩ | ⟨e, _⟩
  · exact ⟨⟨oc, od, kV, doc, pm, an, cdv, ct, osl, rfl, lk, hcd⟩, F.kp⟩
  · exact absurd rfl e
def ctx (K : PySem.W.Frag) : Ctx := { K := K, cScreenError := He.ga K "ScreenError", cBadText := He.ga K "BadText", cBadSize := He.ga K "BadSize", cBadPlace := He.ga K "BadPlace", cBadPage := He.ga K "BadPage", cBadPane := He.ga K "BadPane", cBadTick := He.ga K "BadTick", cNothing := He.ga K "Nothing", cReader := He.ga K "Reader", cRow := He.ga K "Row", cScreen := He.ga K "Screen", cLine := He.ga K "Line", cPanes := He.ga K "Panes", cTape := He.ga K "Tape", aPLAIN := He.ga K "PLAIN", aBLANK := He.ga K "BLANK", aUPRIGHT := He.ga K "UPRIGHT", aLEVEL := He.ga K "LEVEL", tabs := [((He.cT K ("law", none)).2, (("law" : Str) ++ ".<locals>.") ++ "<lambda>")] }
theorem says_txt {K : PySem.W.Frag} {h : Heap} {mg : Str → Option Value} (X : K.In h) (G : h.Ns mainGlobals mg) (c : He.SaysD fa fn K) : Txt (ctx K) mg where
  b_ord := He.free_ok X G (c.fact 0 (f := .free "ord") rfl)
  b_isinstance := He.free_ok X G (c.fact 1 (f := .free "isinstance") rfl)
  b_str := He.free_ok X G (c.fact 2 (f := .free "str") rfl)
  b_len := He.free_ok X G (c.fact 3 (f := .free "len") rfl)
  b_all := He.free_ok X G (c.fact 4 (f := .free "all") rfl)
  b_tuple := He.free_ok X G (c.fact 5 (f := .free "tuple") rfl)
  b_int := He.free_ok X G (c.fact 6 (f := .free "int") rfl)
  b_bool := He.free_ok X G (c.fact 7 (f := .free "bool") rfl)
  b_zip := He.free_ok X G (c.fact 8 (f := .free "zip") rfl)
  b_list := He.free_ok X G (c.fact 9 (f := .free "list") rfl)
  b_enumerate := He.free_ok X G (c.fact 10 (f := .free "enumerate") rfl)
  b_range := He.free_ok X G (c.fact 11 (f := .free "range") rfl)
  b_max := He.free_ok X G (c.fact 12 (f := .free "max") rfl)
  b_min := He.free_ok X G (c.fact 13 (f := .free "min") rfl)
  b_sum := He.free_ok X G (c.fact 14 (f := .free "sum") rfl)
  b_ValueError := He.free_ok X G (c.fact 15 (f := .free "ValueError") rfl)
  g_BARRED := let ⟨t, e⟩ := He.int_ok X G (c.fact 16 (f := .int "BARRED" 37) rfl); ⟨_, e, ⟨t, rfl⟩⟩
  g_GAP := let ⟨t, e⟩ := He.str_ok X G (c.fact 17 (f := .str "GAP" ⟨#[10]⟩) rfl); ⟨_, e, ⟨t, rfl⟩⟩
  g_MOST_TEXT := let ⟨t, e⟩ := He.int_ok X G (c.fact 18 (f := .int "MOST_TEXT" 4000) rfl); ⟨_, e, ⟨t, rfl⟩⟩
  g_SMALL := let ⟨t, e⟩ := He.str_ok X G (c.fact 19 (f := .str "SMALL" ⟨#[97, 98, 99, 100, 101, 102, 103, 104, 105, 106, 107, 108, 109, 110, 111, 112, 113, 114, 115, 116, 117, 118, 119, 120, 121, 122]⟩) rfl); ⟨_, e, ⟨t, rfl⟩⟩
  g_GREAT := let ⟨t, e⟩ := He.str_ok X G (c.fact 20 (f := .str "GREAT" ⟨#[65, 66, 67, 68, 69, 70, 71, 72, 73, 74, 75, 76, 77, 78, 79, 80, 81, 82, 83, 84, 85, 86, 87, 88, 89, 90]⟩) rfl); ⟨_, e, ⟨t, rfl⟩⟩
  g_FIGURES := let ⟨t, e⟩ := He.str_ok X G (c.fact 21 (f := .str "FIGURES" ⟨#[48, 49, 50, 51, 52, 53, 54, 55, 56, 57]⟩) rfl); ⟨_, e, ⟨t, rfl⟩⟩
  g_MOST_FIGURES := let ⟨t, e⟩ := He.int_ok X G (c.fact 22 (f := .int "MOST_FIGURES" 4) rfl); ⟨_, e, ⟨t, rfl⟩⟩
  g_MOST_ARGUMENTS := let ⟨t, e⟩ := He.int_ok X G (c.fact 23 (f := .int "MOST_ARGUMENTS" 4) rfl); ⟨_, e, ⟨t, rfl⟩⟩
  g_MOST_COLOUR := let ⟨t, e⟩ := He.int_ok X G (c.fact 24 (f := .int "MOST_COLOUR" 7) rfl); ⟨_, e, ⟨t, rfl⟩⟩
  g_MOST_MARKS := let ⟨t, e⟩ := He.int_ok X G (c.fact 25 (f := .int "MOST_MARKS" 3) rfl); ⟨_, e, ⟨t, rfl⟩⟩
  g_BLANK := ⟨_, He.glo_ok X G (c.fact 26 (f := .glo "BLANK") rfl), rfl⟩
  g_LEAST_HIGH := let ⟨t, e⟩ := He.int_ok X G (c.fact 27 (f := .int "LEAST_HIGH" 2) rfl); ⟨_, e, ⟨t, rfl⟩⟩
  g_MOST_HIGH := let ⟨t, e⟩ := He.int_ok X G (c.fact 28 (f := .int "MOST_HIGH" 40) rfl); ⟨_, e, ⟨t, rfl⟩⟩
  g_LEAST_WIDE := let ⟨t, e⟩ := He.int_ok X G (c.fact 29 (f := .int "LEAST_WIDE" 2) rfl); ⟨_, e, ⟨t, rfl⟩⟩
  g_MOST_WIDE := let ⟨t, e⟩ := He.int_ok X G (c.fact 30 (f := .int "MOST_WIDE" 60) rfl); ⟨_, e, ⟨t, rfl⟩⟩
  g_MOST_KEPT := let ⟨t, e⟩ := He.int_ok X G (c.fact 31 (f := .int "MOST_KEPT" 200) rfl); ⟨_, e, ⟨t, rfl⟩⟩
  g_PLAIN := ⟨_, He.glo_ok X G (c.fact 32 (f := .glo "PLAIN") rfl), rfl⟩
  g_MOST_TICKS := let ⟨t, e⟩ := He.int_ok X G (c.fact 33 (f := .int "MOST_TICKS" 1000) rfl); ⟨_, e, ⟨t, rfl⟩⟩
  g_MOST_RECORDS := let ⟨t, e⟩ := He.int_ok X G (c.fact 34 (f := .int "MOST_RECORDS" 60) rfl); ⟨_, e, ⟨t, rfl⟩⟩
  g_MOST_WORD := let ⟨t, e⟩ := He.int_ok X G (c.fact 35 (f := .int "MOST_WORD" 20) rfl); ⟨_, e, ⟨t, rfl⟩⟩
  x_BadText := let e := He.exc_ok (c.fact 37 (f := .exc "BadText") rfl); ⟨e.1, He.glo_ok X G (c.fact 36 (f := .glo "BadText") rfl), e.2.1, e.2.2.1, e.2.2.2⟩
  x_BadPage := let e := He.exc_ok (c.fact 39 (f := .exc "BadPage") rfl); ⟨e.1, He.glo_ok X G (c.fact 38 (f := .glo "BadPage") rfl), e.2.1, e.2.2.1, e.2.2.2⟩
  x_BadSize := let e := He.exc_ok (c.fact 41 (f := .exc "BadSize") rfl); ⟨e.1, He.glo_ok X G (c.fact 40 (f := .glo "BadSize") rfl), e.2.1, e.2.2.1, e.2.2.2⟩
  x_BadTick := let e := He.exc_ok (c.fact 43 (f := .exc "BadTick") rfl); ⟨e.1, He.glo_ok X G (c.fact 42 (f := .glo "BadTick") rfl), e.2.1, e.2.2.1, e.2.2.2⟩
  x_Nothing := let e := He.exc_ok (c.fact 45 (f := .exc "Nothing") rfl); ⟨e.1, He.glo_ok X G (c.fact 44 (f := .glo "Nothing") rfl), e.2.1, e.2.2.1, e.2.2.2⟩
  x_BadPlace := let e := He.exc_ok (c.fact 47 (f := .exc "BadPlace") rfl); ⟨e.1, He.glo_ok X G (c.fact 46 (f := .glo "BadPlace") rfl), e.2.1, e.2.2.1, e.2.2.2⟩
  x_BadPane := let e := He.exc_ok (c.fact 49 (f := .exc "BadPane") rfl); ⟨e.1, He.glo_ok X G (c.fact 48 (f := .glo "BadPane") rfl), e.2.1, e.2.2.1, e.2.2.2⟩
theorem says_Tups {K : PySem.W.Frag} (h : exK K = true) : Tups (ctx K) := by
  have h' : (He.tupB K "PLAIN" [.int 0, .int 0, .int 0] && He.tupB K "BLANK" [.str ⟨#[32]⟩, .glo "PLAIN"] && badsB K names7) = true := h
  simp only [Bool.and_eq_true] at h'
  have pl : ∀ F, Dp K F (.ref (He.ga K "PLAIN")) (penData plainPen) := fun F => .tup (He.tupB_ok h'.1.1 F) (.cons (.int _) (.cons (.int _) (.cons (.int _) .nil)))
  exact ⟨fun F => .tup (He.tupB_ok h'.1.2 F) (.cons (.str _) (.cons (pl F) .nil)), pl⟩
theorem says_Bads {K : PySem.W.Frag} (h : exK K = true) : BadsOk (ctx K).K (bads7 (ctx K)) (He.ga K "ScreenError") := by
  have h' : (He.tupB K "PLAIN" [.int 0, .int 0, .int 0] && He.tupB K "BLANK" [.str ⟨#[32]⟩, .glo "PLAIN"] && badsB K names7) = true := h
  simp only [Bool.and_eq_true] at h'
  exact badsB_ok (names := names7) rfl h'.2
theorem says_Reader {K : PySem.W.Frag} (c : He.SaysD fa fn K) : FReader (ctx K) where
  cl := He.cls_ok (c.fact 52 (f := .cls "Reader") rfl)
  n_begun := He.noat_ok (c.fact 54 (f := .noat "Reader" "begun") rfl)
  n_lost := He.noat_ok (c.fact 55 (f := .noat "Reader" "lost") rfl)
theorem says_Row {K : PySem.W.Frag} (c : He.SaysD fa fn K) : FRow (ctx K) where
  cl := He.cls_ok (c.fact 62 (f := .cls "Row") rfl)
  n_cells := He.noat_ok (c.fact 64 (f := .noat "Row" "cells") rfl)
  n_goes_on := He.noat_ok (c.fact 65 (f := .noat "Row" "goes_on") rfl)
theorem says_Screen {K : PySem.W.Frag} (c : He.SaysD fa fn K) : FScreen (ctx K) where
  cl := He.cls_ok (c.fact 67 (f := .cls "Screen") rfl)
  n_reader := He.noat_ok (c.fact 69 (f := .noat "Screen" "reader") rfl)
  n_wide := He.noat_ok (c.fact 70 (f := .noat "Screen" "wide") rfl)
  n_high := He.noat_ok (c.fact 71 (f := .noat "Screen" "high") rfl)
  n_most := He.noat_ok (c.fact 72 (f := .noat "Screen" "most") rfl)
  n_past := He.noat_ok (c.fact 73 (f := .noat "Screen" "past") rfl)
  n_rows := He.noat_ok (c.fact 74 (f := .noat "Screen" "rows") rfl)
  n_row := He.noat_ok (c.fact 75 (f := .noat "Screen" "row") rfl)
  n_column := He.noat_ok (c.fact 76 (f := .noat "Screen" "column") rfl)
  n_is_full := He.noat_ok (c.fact 77 (f := .noat "Screen" "is_full") rfl)
  n_pen := He.noat_ok (c.fact 78 (f := .noat "Screen" "pen") rfl)
  n_top := He.noat_ok (c.fact 79 (f := .noat "Screen" "top") rfl)
  n_bottom := He.noat_ok (c.fact 80 (f := .noat "Screen" "bottom") rfl)
  n_put_by := He.noat_ok (c.fact 81 (f := .noat "Screen" "put_by") rfl)
  n_last := He.noat_ok (c.fact 82 (f := .noat "Screen" "last") rfl)
theorem says_Tape {K : PySem.W.Frag} (c : He.SaysD fa fn K) : FTape (ctx K) where
  cl := He.cls_ok (c.fact 102 (f := .cls "Tape") rfl)
  n_sizes := He.noat_ok (c.fact 104 (f := .noat "Tape" "sizes") rfl)
  n_rows := He.noat_ok (c.fact 105 (f := .noat "Tape" "rows") rfl)
  n_taken := He.noat_ok (c.fact 106 (f := .noat "Tape" "taken") rfl)
theorem law_at {w : World} {mg : Str → Option Value} {fa' : Addr} {h : Heap} (G : h.Ns mainGlobals mg) (hmg : mg ("law" : Str) = some (.ref fa')) (Y : hkk.says w h) : ∃ K : PySem.W.Frag, K.In h ∧ LamX.LawAtS PySem.Challenge.rw_steerscreen_k61_tapes_refused w K CX0 15 63 "_law_script" mg fa' h := by
  obtain ⟨K, X, Y⟩ := Y
  have c := Y.t.d
  refine ⟨K, X, ?_⟩
  have T := says_txt X G c
  have FFTups := says_Tups Y.more
  have FFReader := says_Reader c
  have FFRow := says_Row c
  have FFScreen := says_Screen c
  have FFTape := says_Tape c
  obtain ⟨fd_is_sign, FD_is_sign⟩ := c.def_ 0 (d := dd_is_sign) rfl
  obtain ⟨fd_need_text, FD_need_text⟩ := c.def_ 1 (d := dd_need_text) rfl
  obtain ⟨fd_Reader_init, FD_Reader_init⟩ := c.def_ 2 (d := dd_Reader_init) rfl
  obtain ⟨fd_Reader_feed, FD_Reader_feed⟩ := c.def_ 3 (d := dd_Reader_feed) rfl
  obtain ⟨fd_Reader_plain, FD_Reader_plain⟩ := c.def_ 4 (d := dd_Reader_plain) rfl
  obtain ⟨fd_Reader_read, FD_Reader_read⟩ := c.def_ 5 (d := dd_Reader_read) rfl
  obtain ⟨fd_Reader_can_go_on, FD_Reader_can_go_on⟩ := c.def_ 6 (d := dd_Reader_can_go_on) rfl
  obtain ⟨fd_Reader_whole, FD_Reader_whole⟩ := c.def_ 7 (d := dd_Reader_whole) rfl
  obtain ⟨fd_is_count, FD_is_count⟩ := c.def_ 8 (d := dd_is_count) rfl
  obtain ⟨fd_need, FD_need⟩ := c.def_ 9 (d := dd_need) rfl
  obtain ⟨fd_is_pen, FD_is_pen⟩ := c.def_ 10 (d := dd_is_pen) rfl
  obtain ⟨fd_is_cell, FD_is_cell⟩ := c.def_ 11 (d := dd_is_cell) rfl
  obtain ⟨fd_need_page, FD_need_page⟩ := c.def_ 12 (d := dd_need_page) rfl
  obtain ⟨fd_changes, FD_changes⟩ := c.def_ 13 (d := dd_changes) rfl
  obtain ⟨fd_need_size, FD_need_size⟩ := c.def_ 14 (d := dd_need_size) rfl
  obtain ⟨fd_Row_init, FD_Row_init⟩ := c.def_ 15 (d := dd_Row_init) rfl
  obtain ⟨fd_blank_row, FD_blank_row⟩ := c.def_ 16 (d := dd_blank_row) rfl
  obtain ⟨fd_Screen_init, FD_Screen_init⟩ := c.def_ 17 (d := dd_Screen_init) rfl
  obtain ⟨fd_Screen_begin, FD_Screen_begin⟩ := c.def_ 18 (d := dd_Screen_begin) rfl
  obtain ⟨fd_Screen_page, FD_Screen_page⟩ := c.def_ 19 (d := dd_Screen_page) rfl
  obtain ⟨fd_Screen_cursor, FD_Screen_cursor⟩ := c.def_ 20 (d := dd_Screen_cursor) rfl
  obtain ⟨fd_Screen_feed, FD_Screen_feed⟩ := c.def_ 21 (d := dd_Screen_feed) rfl
  obtain ⟨fd_Screen_do, FD_Screen_do⟩ := c.def_ 22 (d := dd_Screen_do) rfl
  obtain ⟨fd_Screen_stand, FD_Screen_stand⟩ := c.def_ 23 (d := dd_Screen_stand) rfl
  obtain ⟨fd_Screen_put, FD_Screen_put⟩ := c.def_ 24 (d := dd_Screen_put) rfl
  obtain ⟨fd_Screen_roll, FD_Screen_roll⟩ := c.def_ 25 (d := dd_Screen_roll) rfl
  obtain ⟨fd_Screen_roll_down, FD_Screen_roll_down⟩ := c.def_ 26 (d := dd_Screen_roll_down) rfl
  obtain ⟨fd_Screen_cut_off, FD_Screen_cut_off⟩ := c.def_ 27 (d := dd_Screen_cut_off) rfl
  obtain ⟨fd_Screen_down, FD_Screen_down⟩ := c.def_ 28 (d := dd_Screen_down) rfl
  obtain ⟨fd_Screen_up, FD_Screen_up⟩ := c.def_ 29 (d := dd_Screen_up) rfl
  obtain ⟨fd_Screen_small, FD_Screen_small⟩ := c.def_ 30 (d := dd_Screen_small) rfl
  obtain ⟨fd_Screen_erase, FD_Screen_erase⟩ := c.def_ 31 (d := dd_Screen_erase) rfl
  obtain ⟨fd_Screen_great, FD_Screen_great⟩ := c.def_ 32 (d := dd_Screen_great) rfl
  obtain ⟨fd_Screen_one, FD_Screen_one⟩ := c.def_ 33 (d := dd_Screen_one) rfl
  obtain ⟨fd_Screen_take_rows, FD_Screen_take_rows⟩ := c.def_ 34 (d := dd_Screen_take_rows) rfl
  obtain ⟨fd_Screen_shift, FD_Screen_shift⟩ := c.def_ 35 (d := dd_Screen_shift) rfl
  obtain ⟨fd_Tape_init, FD_Tape_init⟩ := c.def_ 36 (d := dd_Tape_init) rfl
  obtain ⟨fd_Tape_record, FD_Tape_record⟩ := c.def_ 37 (d := dd_Tape_record) rfl
  obtain ⟨fd_Tape_undo, FD_Tape_undo⟩ := c.def_ 38 (d := dd_Tape_undo) rfl
  obtain ⟨fd_Tape_length, FD_Tape_length⟩ := c.def_ 39 (d := dd_Tape_length) rfl
  obtain ⟨fd_Tape_records, FD_Tape_records⟩ := c.def_ 40 (d := dd_Tape_records) rfl
  obtain ⟨fd_Tape_need_tick, FD_Tape_need_tick⟩ := c.def_ 41 (d := dd_Tape_need_tick) rfl
  obtain ⟨fd_Tape_screen_behind, FD_Tape_screen_behind⟩ := c.def_ 42 (d := dd_Tape_screen_behind) rfl
  obtain ⟨fd_Tape_page_at, FD_Tape_page_at⟩ := c.def_ 43 (d := dd_Tape_page_at) rfl
  obtain ⟨fd_Tape_cursor_at, FD_Tape_cursor_at⟩ := c.def_ 44 (d := dd_Tape_cursor_at) rfl
  obtain ⟨fd_Tape_changes_at, FD_Tape_changes_at⟩ := c.def_ 45 (d := dd_Tape_changes_at) rfl
  obtain ⟨fd_Tape_first_with, FD_Tape_first_with⟩ := c.def_ 46 (d := dd_Tape_first_with) rfl
  obtain ⟨fd__law_cell, FD__law_cell⟩ := c.def_ 47 (d := dd__law_cell) rfl
  obtain ⟨fd__law_drawn, FD__law_drawn⟩ := c.def_ 48 (d := dd__law_drawn) rfl
  obtain ⟨fd_law, FD_law⟩ := c.def_ 49 (d := dd_law) rfl
  obtain ⟨fd__law_told, FD__law_told⟩ := c.def_ 50 (d := dd__law_told) rfl
  obtain ⟨fd__law_word, FD__law_word⟩ := c.def_ 51 (d := dd__law_word) rfl
  obtain ⟨cdl, hcl⟩ : ∃ cdl, fd_law.code = .ref cdl := by
    obtain ⟨oc, od, dV, kV, doc, pm, an, cdv, ct, osl, rfl, lk, hcd, _, _⟩ := FD_law.ex
    exact He.codeIn_ref hcd
  have eC : He.codeOf K ("law", none) = cdl := by
    obtain ⟨oc, od, dV, kV, doc, pm, an, cdv, ct, osl, rfl, lk, hcd, _, _⟩ := FD_law.ex
    exact He.codeOf_eq (p := ("law", none)) lk hcl
  have e := hmg.symm.trans (He.glo_ok X G (c.fact 129 (f := .glo "law") rfl))
  cases e
  refine ⟨fd_law, [He.cT K ("law", none)], sp_law (ctx K), fun p hp => ?_, fun p hp => ?_, fun p hp => ?_, fun s u => ?_, ?_, ?_⟩
  · rw [List.mem_singleton.mp hp]; exact Y.empty _ List.mem_cons_self
  · rw [List.mem_singleton.mp hp]; exact Y.out _ List.mem_cons_self
  · rw [List.mem_singleton.mp hp]; exact PySem.W.codeHd_of_K X (Y.hd _ List.mem_cons_self)
  · exact FunD.bindsA (ps := ["_law_script"]) FD_law (fun _ _ _ _ _ _ us hl => match us, hl with | [_], _ => rfl) s [u] rfl
  · intro H a ns hl hb hT hS
    refine ⟨a, ns, H, rfl, hS, hl, fun n hn => cell_bit (hb n hn), fun q hq => ?_, Hold.start H, fun _ => rfl⟩
    rw [List.mem_singleton.mp hq]
    exact ⟨#[], hT _ List.mem_cons_self, trivial, fun pos cv z => by cases z⟩
  · intro base hK hN hTB
    have D__law_drawn : DefX (PySem.Challenge.rw_steerscreen_k61_tapes_refused).prog w (ctx K).K mg base CX0 "_law_drawn" 1 ["_law_cell_here", "_law_k"] (sp__law_drawn (ctx K)) := ⟨_, fd__law_drawn, (ok__law_drawn (funD_fun FD__law_drawn) T rd__law_drawn (by intro vs H Q E h; repeat (first | (obtain ⟨rfl, _⟩ := h; rfl) | (obtain ⟨_, h⟩ := h))) ), He.glo_ok X G (c.fact 128 (f := .glo "_law_drawn") rfl), FD__law_drawn.kp, FD__law_drawn.bindsN (fun _ _ _ _ _ _ us hl => match us, hl with | [_, _], _ => rfl)⟩
    have D__law_cell : DefX (PySem.Challenge.rw_steerscreen_k61_tapes_refused).prog w (ctx K).K mg base CX0 "_law_cell" 1 ["_law_script", "_law_k"] (sp__law_cell (ctx K)) := ⟨_, fd__law_cell, (ok__law_cell (funD_fun FD__law_cell) T rd__law_cell (by intro vs H Q E h; repeat (first | (obtain ⟨rfl, _⟩ := h; rfl) | (obtain ⟨_, h⟩ := h))) ), He.glo_ok X G (c.fact 127 (f := .glo "_law_cell") rfl), FD__law_cell.kp, FD__law_cell.bindsN (fun _ _ _ _ _ _ us hl => match us, hl with | [_, _], _ => rfl)⟩
    have D_need_size : DefX (PySem.Challenge.rw_steerscreen_k61_tapes_refused).prog w (ctx K).K mg base (L2N.CX _ w) "need_size" 1 ["good"] (sp_need_size (ctx K)) := ⟨_, fd_need_size, (ok_need_size (funD_fun FD_need_size) T rd_need_size (by intro vs H Q E h; repeat (first | (obtain ⟨rfl, _⟩ := h; rfl) | (obtain ⟨_, h⟩ := h))) ), He.glo_ok X G (c.fact 125 (f := .glo "need_size") rfl), FD_need_size.kp, FD_need_size.bindsN (fun _ _ _ _ _ _ us hl => match us, hl with | [_], _ => rfl)⟩
    have D_is_count : DefX (PySem.Challenge.rw_steerscreen_k61_tapes_refused).prog w (ctx K).K mg base CX0 "is_count" 1 ["thing", "least", "most"] (sp_is_count (ctx K)) := ⟨_, fd_is_count, (ok_is_count (funD_fun FD_is_count) T rd_is_count (by intro vs H Q E h; repeat (first | (obtain ⟨rfl, _⟩ := h; rfl) | (obtain ⟨_, h⟩ := h))) ), He.glo_ok X G (c.fact 119 (f := .glo "is_count") rfl), FD_is_count.kp, FD_is_count.bindsN (fun _ _ _ _ _ _ us hl => match us, hl with | [_, _, _], _ => rfl)⟩
    have D_Reader_init : InitX (PySem.Challenge.rw_steerscreen_k61_tapes_refused).prog w (ctx K).K mg base CX0 "Reader" (ctx K).cReader 1 ["self"] (sp_Reader_init (ctx K)) := ⟨_, fd_Reader_init, (ok_Reader_init (funD_fun FD_Reader_init) T (rd_Reader_init FFReader) (by intro vs H Q E h; repeat (first | (obtain ⟨rfl, _⟩ := h; rfl) | (obtain ⟨_, h⟩ := h))) ), He.mkr_ok (c.fact 53 (f := .mkr "Reader") rfl), He.glo_ok X G (c.fact 51 (f := .glo "Reader") rfl), FD_Reader_init.bindsN (fun _ _ _ _ _ _ us hl => match us, hl with | [_], _ => rfl)⟩
    have D_Row_init : InitX (PySem.Challenge.rw_steerscreen_k61_tapes_refused).prog w (ctx K).K mg base CX0 "Row" (ctx K).cRow 1 ["self", "cells", "goes_on"] (sp_Row_init (ctx K)) := ⟨_, fd_Row_init, (ok_Row_init (funD_fun FD_Row_init) T (rd_Row_init FFRow) (by intro vs H Q E h; repeat (first | (obtain ⟨rfl, _⟩ := h; rfl) | (obtain ⟨_, h⟩ := h))) ), He.mkr_ok (c.fact 63 (f := .mkr "Row") rfl), He.glo_ok X G (c.fact 61 (f := .glo "Row") rfl), FD_Row_init.bindsN (fun _ _ _ _ _ _ us hl => match us, hl with | [_, _, _], _ => rfl)⟩
    have D_blank_row : DefX (PySem.Challenge.rw_steerscreen_k61_tapes_refused).prog w (ctx K).K mg base CX0 "blank_row" 3 ["wide"] (sp_blank_row (ctx K)) := ⟨_, fd_blank_row, (ok_blank_row (funD_fun FD_blank_row) T (rd_blank_row FFTups) (by intro vs H Q E h; repeat (first | (obtain ⟨rfl, _⟩ := h; rfl) | (obtain ⟨_, h⟩ := h))) D_Row_init), He.glo_ok X G (c.fact 126 (f := .glo "blank_row") rfl), FD_blank_row.kp, FD_blank_row.bindsN (fun _ _ _ _ _ _ us hl => match us, hl with | [_], _ => rfl)⟩
    have D_Screen_begin : MethX (PySem.Challenge.rw_steerscreen_k61_tapes_refused).prog w (ctx K).K mg base CX0 (ctx K).cScreen "begin" 4 ["self"] (sp_Screen_begin (ctx K)) := ⟨_, fd_Screen_begin, (ok_Screen_begin (funD_fun FD_Screen_begin) T (rd_Screen_begin FFTups FFScreen) (by intro vs H Q E h; repeat (first | (obtain ⟨rfl, _⟩ := h; rfl) | (obtain ⟨_, h⟩ := h))) D_blank_row), He.cls_ok (c.fact 67 (f := .cls "Screen") rfl), He.meth_ok (c.fact 83 (f := .meth "Screen" "begin") rfl), FD_Screen_begin.bindsN (fun _ _ _ _ _ _ us hl => match us, hl with | [_], _ => rfl)⟩
    have D_Screen_init : InitX (PySem.Challenge.rw_steerscreen_k61_tapes_refused).prog w (ctx K).K mg base (L2N.CX _ w) "Screen" (ctx K).cScreen 5 ["self", "wide", "high", "most"] (sp_Screen_init (ctx K)) := ⟨_, fd_Screen_init, (ok_Screen_init (funD_fun FD_Screen_init) T (rd_Screen_init FFScreen) (by intro vs H Q E h; repeat (first | (obtain ⟨rfl, _⟩ := h; rfl) | (obtain ⟨_, h⟩ := h))) D_need_size D_is_count D_Reader_init D_Screen_begin), He.mkr_ok (c.fact 68 (f := .mkr "Screen") rfl), He.glo_ok X G (c.fact 66 (f := .glo "Screen") rfl), FD_Screen_init.bindsN (fun _ _ _ _ _ _ us hl => match us, hl with | [_, _, _, _], _ => rfl)⟩
    have D_Tape_init : InitX (PySem.Challenge.rw_steerscreen_k61_tapes_refused).prog w (ctx K).K mg base (L2N.CX _ w) "Tape" (ctx K).cTape 7 ["self", "wide", "high", "most"] (sp_Tape_init (ctx K)) := ⟨_, fd_Tape_init, (ok_Tape_init (funD_fun FD_Tape_init) T (rd_Tape_init FFTape) (by intro vs H Q E h; repeat (first | (obtain ⟨rfl, _⟩ := h; rfl) | (obtain ⟨_, h⟩ := h))) D_Screen_init), He.mkr_ok (c.fact 103 (f := .mkr "Tape") rfl), He.glo_ok X G (c.fact 101 (f := .glo "Tape") rfl), FD_Tape_init.bindsN (fun _ _ _ _ _ _ us hl => match us, hl with | [_, _, _, _], _ => rfl)⟩
    have D_is_sign : DefX (PySem.Challenge.rw_steerscreen_k61_tapes_refused).prog w (ctx K).K mg base CX0 "is_sign" 1 ["sign"] (sp_is_sign (ctx K)) := ⟨_, fd_is_sign, (ok_is_sign (funD_fun FD_is_sign) T rd_is_sign (by intro vs H Q E h; repeat (first | (obtain ⟨rfl, _⟩ := h; rfl) | (obtain ⟨_, h⟩ := h))) ), He.glo_ok X G (c.fact 117 (f := .glo "is_sign") rfl), FD_is_sign.kp, FD_is_sign.bindsN (fun _ _ _ _ _ _ us hl => match us, hl with | [_], _ => rfl)⟩
    have D_need_text : DefX (PySem.Challenge.rw_steerscreen_k61_tapes_refused).prog w (ctx K).K mg base (L2N.CX _ w) "need_text" 2 ["text"] (sp_need_text (ctx K)) := ⟨_, fd_need_text, (ok_need_text (funD_fun FD_need_text) T rd_need_text (by intro vs H Q E h; repeat (first | (obtain ⟨rfl, _⟩ := h; rfl) | (obtain ⟨_, h⟩ := h))) D_is_sign), He.glo_ok X G (c.fact 118 (f := .glo "need_text") rfl), FD_need_text.kp, FD_need_text.bindsN (fun _ _ _ _ _ _ us hl => match us, hl with | [_], _ => rfl)⟩
    have D_Tape_length : MethX (PySem.Challenge.rw_steerscreen_k61_tapes_refused).prog w (ctx K).K mg base CX0 (ctx K).cTape "length" 1 ["self"] (sp_Tape_length (ctx K)) := ⟨_, fd_Tape_length, (ok_Tape_length (funD_fun FD_Tape_length) T (rd_Tape_length FFTape) (by intro vs H Q E h; repeat (first | (obtain ⟨rfl, _⟩ := h; rfl) | (obtain ⟨_, h⟩ := h))) ), He.cls_ok (c.fact 102 (f := .cls "Tape") rfl), He.meth_ok (c.fact 109 (f := .meth "Tape" "length") rfl), FD_Tape_length.bindsN (fun _ _ _ _ _ _ us hl => match us, hl with | [_], _ => rfl)⟩
    have D_Tape_record : MethX (PySem.Challenge.rw_steerscreen_k61_tapes_refused).prog w (ctx K).K mg base (L2N.CX _ w) (ctx K).cTape "record" 3 ["self", "ticks", "text"] (sp_Tape_record (ctx K)) := ⟨_, fd_Tape_record, (ok_Tape_record (funD_fun FD_Tape_record) T (rd_Tape_record FFTape) (by intro vs H Q E h; repeat (first | (obtain ⟨rfl, _⟩ := h; rfl) | (obtain ⟨_, h⟩ := h))) D_is_count D_need_text D_Tape_length), He.cls_ok (c.fact 102 (f := .cls "Tape") rfl), He.meth_ok (c.fact 107 (f := .meth "Tape" "record") rfl), FD_Tape_record.bindsN (fun _ _ _ _ _ _ us hl => match us, hl with | [_, _, _], _ => rfl)⟩
    have D_Tape_records : MethX (PySem.Challenge.rw_steerscreen_k61_tapes_refused).prog w (ctx K).K mg base CX0 (ctx K).cTape "records" 1 ["self"] (sp_Tape_records (ctx K)) := ⟨_, fd_Tape_records, (ok_Tape_records (funD_fun FD_Tape_records) T (rd_Tape_records FFTape) (by intro vs H Q E h; repeat (first | (obtain ⟨rfl, _⟩ := h; rfl) | (obtain ⟨_, h⟩ := h))) ), He.cls_ok (c.fact 102 (f := .cls "Tape") rfl), He.meth_ok (c.fact 110 (f := .meth "Tape" "records") rfl), FD_Tape_records.bindsN (fun _ _ _ _ _ _ us hl => match us, hl with | [_], _ => rfl)⟩
    have D_Tape_undo : MethX (PySem.Challenge.rw_steerscreen_k61_tapes_refused).prog w (ctx K).K mg base (L2N.CX _ w) (ctx K).cTape "undo" 1 ["self"] (sp_Tape_undo (ctx K)) := ⟨_, fd_Tape_undo, (ok_Tape_undo (funD_fun FD_Tape_undo) T (rd_Tape_undo FFTape) (by intro vs H Q E h; repeat (first | (obtain ⟨rfl, _⟩ := h; rfl) | (obtain ⟨_, h⟩ := h))) ), He.cls_ok (c.fact 102 (f := .cls "Tape") rfl), He.meth_ok (c.fact 108 (f := .meth "Tape" "undo") rfl), FD_Tape_undo.bindsN (fun _ _ _ _ _ _ us hl => match us, hl with | [_], _ => rfl)⟩
    have D_Tape_need_tick : MethX (PySem.Challenge.rw_steerscreen_k61_tapes_refused).prog w (ctx K).K mg base (L2N.CX _ w) (ctx K).cTape "need_tick" 2 ["self", "tick"] (sp_Tape_need_tick (ctx K)) := ⟨_, fd_Tape_need_tick, (ok_Tape_need_tick (funD_fun FD_Tape_need_tick) T (rd_Tape_need_tick FFTape) (by intro vs H Q E h; repeat (first | (obtain ⟨rfl, _⟩ := h; rfl) | (obtain ⟨_, h⟩ := h))) D_is_count D_Tape_length), He.cls_ok (c.fact 102 (f := .cls "Tape") rfl), He.meth_ok (c.fact 111 (f := .meth "Tape" "need_tick") rfl), FD_Tape_need_tick.bindsN (fun _ _ _ _ _ _ us hl => match us, hl with | [_, _], _ => rfl)⟩
    have D_Screen_page : MethX (PySem.Challenge.rw_steerscreen_k61_tapes_refused).prog w (ctx K).K mg base CX0 (ctx K).cScreen "page" 1 ["self"] (sp_Screen_page (ctx K)) := ⟨_, fd_Screen_page, (ok_Screen_page (funD_fun FD_Screen_page) T (rd_Screen_page FFScreen FFRow) (by intro vs H Q E h; repeat (first | (obtain ⟨rfl, _⟩ := h; rfl) | (obtain ⟨_, h⟩ := h))) ), He.cls_ok (c.fact 67 (f := .cls "Screen") rfl), He.meth_ok (c.fact 84 (f := .meth "Screen" "page") rfl), FD_Screen_page.bindsN (fun _ _ _ _ _ _ us hl => match us, hl with | [_], _ => rfl)⟩
    have D_Reader_plain : MethX (PySem.Challenge.rw_steerscreen_k61_tapes_refused).prog w (ctx K).K mg base CX0 (ctx K).cReader "plain" 1 ["self", "sign"] (sp_Reader_plain (ctx K)) := ⟨_, fd_Reader_plain, (ok_Reader_plain (funD_fun FD_Reader_plain) T (rd_Reader_plain FFReader) (by intro vs H Q E h; repeat (first | (obtain ⟨rfl, _⟩ := h; rfl) | (obtain ⟨_, h⟩ := h))) ), He.cls_ok (c.fact 52 (f := .cls "Reader") rfl), He.meth_ok (c.fact 57 (f := .meth "Reader" "plain") rfl), FD_Reader_plain.bindsN (fun _ _ _ _ _ _ us hl => match us, hl with | [_, _], _ => rfl)⟩
    have D_Reader_can_go_on : MethX (PySem.Challenge.rw_steerscreen_k61_tapes_refused).prog w (ctx K).K mg base CX0 (ctx K).cReader "can_go_on" 1 ["self", "sign"] (sp_Reader_can_go_on (ctx K)) := ⟨_, fd_Reader_can_go_on, (ok_Reader_can_go_on (funD_fun FD_Reader_can_go_on) T (rd_Reader_can_go_on FFReader) (by intro vs H Q E h; repeat (first | (obtain ⟨rfl, _⟩ := h; rfl) | (obtain ⟨_, h⟩ := h))) ), He.cls_ok (c.fact 52 (f := .cls "Reader") rfl), He.meth_ok (c.fact 59 (f := .meth "Reader" "can_go_on") rfl), FD_Reader_can_go_on.bindsN (fun _ _ _ _ _ _ us hl => match us, hl with | [_, _], _ => rfl)⟩
    have D_Reader_whole : MethX (PySem.Challenge.rw_steerscreen_k61_tapes_refused).prog w (ctx K).K mg base CX0 (ctx K).cReader "whole" 1 ["self"] (sp_Reader_whole (ctx K)) := ⟨_, fd_Reader_whole, (ok_Reader_whole (funD_fun FD_Reader_whole) T (rd_Reader_whole FFReader) (by intro vs H Q E h; repeat (first | (obtain ⟨rfl, _⟩ := h; rfl) | (obtain ⟨_, h⟩ := h))) ), He.cls_ok (c.fact 52 (f := .cls "Reader") rfl), He.meth_ok (c.fact 60 (f := .meth "Reader" "whole") rfl), FD_Reader_whole.bindsN (fun _ _ _ _ _ _ us hl => match us, hl with | [_], _ => rfl)⟩
    have D_Reader_read : MethX (PySem.Challenge.rw_steerscreen_k61_tapes_refused).prog w (ctx K).K mg base CX0 (ctx K).cReader "read" 2 ["self", "sign"] (sp_Reader_read (ctx K)) := ⟨_, fd_Reader_read, (ok_Reader_read (funD_fun FD_Reader_read) T (rd_Reader_read FFReader) (by intro vs H Q E h; repeat (first | (obtain ⟨rfl, _⟩ := h; rfl) | (obtain ⟨_, h⟩ := h))) D_Reader_plain D_Reader_can_go_on D_Reader_whole), He.cls_ok (c.fact 52 (f := .cls "Reader") rfl), He.meth_ok (c.fact 58 (f := .meth "Reader" "read") rfl), FD_Reader_read.bindsN (fun _ _ _ _ _ _ us hl => match us, hl with | [_, _], _ => rfl)⟩
    have D_Reader_feed : MethX (PySem.Challenge.rw_steerscreen_k61_tapes_refused).prog w (ctx K).K mg base (L2N.CX _ w) (ctx K).cReader "feed" 3 ["self", "text"] (sp_Reader_feed (ctx K)) := ⟨_, fd_Reader_feed, (ok_Reader_feed (funD_fun FD_Reader_feed) T (rd_Reader_feed FFReader) (by intro vs H Q E h; repeat (first | (obtain ⟨rfl, _⟩ := h; rfl) | (obtain ⟨_, h⟩ := h))) D_need_text D_Reader_read), He.cls_ok (c.fact 52 (f := .cls "Reader") rfl), He.meth_ok (c.fact 56 (f := .meth "Reader" "feed") rfl), FD_Reader_feed.bindsN (fun _ _ _ _ _ _ us hl => match us, hl with | [_, _], _ => rfl)⟩
    have D_Screen_cut_off : MethX (PySem.Challenge.rw_steerscreen_k61_tapes_refused).prog w (ctx K).K mg base CX0 (ctx K).cScreen "cut_off" 1 ["self", "top"] (sp_Screen_cut_off (ctx K)) := ⟨_, fd_Screen_cut_off, (ok_Screen_cut_off (funD_fun FD_Screen_cut_off) T (rd_Screen_cut_off FFScreen FFRow) (by intro vs H Q E h; repeat (first | (obtain ⟨rfl, _⟩ := h; rfl) | (obtain ⟨_, h⟩ := h))) ), He.cls_ok (c.fact 67 (f := .cls "Screen") rfl), He.meth_ok (c.fact 92 (f := .meth "Screen" "cut_off") rfl), FD_Screen_cut_off.bindsN (fun _ _ _ _ _ _ us hl => match us, hl with | [_, _], _ => rfl)⟩
    have D_Screen_roll : MethX (PySem.Challenge.rw_steerscreen_k61_tapes_refused).prog w (ctx K).K mg base CX0 (ctx K).cScreen "roll" 4 ["self", "top", "many"] (sp_Screen_roll (ctx K)) := ⟨_, fd_Screen_roll, (ok_Screen_roll (funD_fun FD_Screen_roll) T (rd_Screen_roll FFScreen) (by intro vs H Q E h; repeat (first | (obtain ⟨rfl, _⟩ := h; rfl) | (obtain ⟨_, h⟩ := h))) D_blank_row D_Screen_cut_off), He.cls_ok (c.fact 67 (f := .cls "Screen") rfl), He.meth_ok (c.fact 90 (f := .meth "Screen" "roll") rfl), FD_Screen_roll.bindsN (fun _ _ _ _ _ _ us hl => match us, hl with | [_, _, _], _ => rfl)⟩
    have D_Screen_down : MethX (PySem.Challenge.rw_steerscreen_k61_tapes_refused).prog w (ctx K).K mg base CX0 (ctx K).cScreen "down" 5 ["self"] (sp_Screen_down (ctx K)) := ⟨_, fd_Screen_down, (ok_Screen_down (funD_fun FD_Screen_down) T (rd_Screen_down FFScreen) (by intro vs H Q E h; repeat (first | (obtain ⟨rfl, _⟩ := h; rfl) | (obtain ⟨_, h⟩ := h))) D_Screen_roll), He.cls_ok (c.fact 67 (f := .cls "Screen") rfl), He.meth_ok (c.fact 93 (f := .meth "Screen" "down") rfl), FD_Screen_down.bindsN (fun _ _ _ _ _ _ us hl => match us, hl with | [_], _ => rfl)⟩
    have D_Screen_stand : MethX (PySem.Challenge.rw_steerscreen_k61_tapes_refused).prog w (ctx K).K mg base CX0 (ctx K).cScreen "stand" 1 ["self", "row", "column"] (sp_Screen_stand (ctx K)) := ⟨_, fd_Screen_stand, (ok_Screen_stand (funD_fun FD_Screen_stand) T (rd_Screen_stand FFScreen) (by intro vs H Q E h; repeat (first | (obtain ⟨rfl, _⟩ := h; rfl) | (obtain ⟨_, h⟩ := h))) ), He.cls_ok (c.fact 67 (f := .cls "Screen") rfl), He.meth_ok (c.fact 88 (f := .meth "Screen" "stand") rfl), FD_Screen_stand.bindsN (fun _ _ _ _ _ _ us hl => match us, hl with | [_, _, _], _ => rfl)⟩
    have D_Screen_put : MethX (PySem.Challenge.rw_steerscreen_k61_tapes_refused).prog w (ctx K).K mg base CX0 (ctx K).cScreen "put" 6 ["self", "sign"] (sp_Screen_put (ctx K)) := ⟨_, fd_Screen_put, (ok_Screen_put (funD_fun FD_Screen_put) T (rd_Screen_put FFScreen FFRow) (by intro vs H Q E h; repeat (first | (obtain ⟨rfl, _⟩ := h; rfl) | (obtain ⟨_, h⟩ := h))) D_Screen_down D_Screen_stand), He.cls_ok (c.fact 67 (f := .cls "Screen") rfl), He.meth_ok (c.fact 89 (f := .meth "Screen" "put") rfl), FD_Screen_put.bindsN (fun _ _ _ _ _ _ us hl => match us, hl with | [_, _], _ => rfl)⟩
    have D_Screen_roll_down : MethX (PySem.Challenge.rw_steerscreen_k61_tapes_refused).prog w (ctx K).K mg base CX0 (ctx K).cScreen "roll_down" 4 ["self", "top", "many"] (sp_Screen_roll_down (ctx K)) := ⟨_, fd_Screen_roll_down, (ok_Screen_roll_down (funD_fun FD_Screen_roll_down) T (rd_Screen_roll_down FFScreen) (by intro vs H Q E h; repeat (first | (obtain ⟨rfl, _⟩ := h; rfl) | (obtain ⟨_, h⟩ := h))) D_blank_row D_Screen_cut_off), He.cls_ok (c.fact 67 (f := .cls "Screen") rfl), He.meth_ok (c.fact 91 (f := .meth "Screen" "roll_down") rfl), FD_Screen_roll_down.bindsN (fun _ _ _ _ _ _ us hl => match us, hl with | [_, _, _], _ => rfl)⟩
    have D_Screen_up : MethX (PySem.Challenge.rw_steerscreen_k61_tapes_refused).prog w (ctx K).K mg base CX0 (ctx K).cScreen "up" 5 ["self"] (sp_Screen_up (ctx K)) := ⟨_, fd_Screen_up, (ok_Screen_up (funD_fun FD_Screen_up) T (rd_Screen_up FFScreen) (by intro vs H Q E h; repeat (first | (obtain ⟨rfl, _⟩ := h; rfl) | (obtain ⟨_, h⟩ := h))) D_Screen_roll_down), He.cls_ok (c.fact 67 (f := .cls "Screen") rfl), He.meth_ok (c.fact 94 (f := .meth "Screen" "up") rfl), FD_Screen_up.bindsN (fun _ _ _ _ _ _ us hl => match us, hl with | [_], _ => rfl)⟩
    have D_Screen_erase : MethX (PySem.Challenge.rw_steerscreen_k61_tapes_refused).prog w (ctx K).K mg base CX0 (ctx K).cScreen "erase" 4 ["self", "word"] (sp_Screen_erase (ctx K)) := ⟨_, fd_Screen_erase, (ok_Screen_erase (funD_fun FD_Screen_erase) T (rd_Screen_erase FFTups FFScreen FFRow) (by intro vs H Q E h; repeat (first | (obtain ⟨rfl, _⟩ := h; rfl) | (obtain ⟨_, h⟩ := h))) D_blank_row), He.cls_ok (c.fact 67 (f := .cls "Screen") rfl), He.meth_ok (c.fact 96 (f := .meth "Screen" "erase") rfl), FD_Screen_erase.bindsN (fun _ _ _ _ _ _ us hl => match us, hl with | [_, _], _ => rfl)⟩
    have D_Screen_small : MethX (PySem.Challenge.rw_steerscreen_k61_tapes_refused).prog w (ctx K).K mg base CX0 (ctx K).cScreen "small" 6 ["self", "word"] (sp_Screen_small (ctx K)) := ⟨_, fd_Screen_small, (ok_Screen_small (funD_fun FD_Screen_small) T (rd_Screen_small FFScreen) (by intro vs H Q E h; repeat (first | (obtain ⟨rfl, _⟩ := h; rfl) | (obtain ⟨_, h⟩ := h))) D_Screen_stand D_Screen_down D_Screen_up D_Screen_erase D_Screen_begin), He.cls_ok (c.fact 67 (f := .cls "Screen") rfl), He.meth_ok (c.fact 95 (f := .meth "Screen" "small") rfl), FD_Screen_small.bindsN (fun _ _ _ _ _ _ us hl => match us, hl with | [_, _], _ => rfl)⟩
    have D_Screen_shift : MethX (PySem.Challenge.rw_steerscreen_k61_tapes_refused).prog w (ctx K).K mg base CX0 (ctx K).cScreen "shift" 1 ["self", "word", "many"] (sp_Screen_shift (ctx K)) := ⟨_, fd_Screen_shift, (ok_Screen_shift (funD_fun FD_Screen_shift) T (rd_Screen_shift FFTups FFScreen FFRow) (by intro vs H Q E h; repeat (first | (obtain ⟨rfl, _⟩ := h; rfl) | (obtain ⟨_, h⟩ := h))) ), He.cls_ok (c.fact 67 (f := .cls "Screen") rfl), He.meth_ok (c.fact 100 (f := .meth "Screen" "shift") rfl), FD_Screen_shift.bindsN (fun _ _ _ _ _ _ us hl => match us, hl with | [_, _, _], _ => rfl)⟩
    have D_Screen_take_rows : MethX (PySem.Challenge.rw_steerscreen_k61_tapes_refused).prog w (ctx K).K mg base CX0 (ctx K).cScreen "take_rows" 5 ["self", "number"] (sp_Screen_take_rows (ctx K)) := ⟨_, fd_Screen_take_rows, (ok_Screen_take_rows (funD_fun FD_Screen_take_rows) T (rd_Screen_take_rows FFScreen) (by intro vs H Q E h; repeat (first | (obtain ⟨rfl, _⟩ := h; rfl) | (obtain ⟨_, h⟩ := h))) D_Screen_roll), He.cls_ok (c.fact 67 (f := .cls "Screen") rfl), He.meth_ok (c.fact 99 (f := .meth "Screen" "take_rows") rfl), FD_Screen_take_rows.bindsN (fun _ _ _ _ _ _ us hl => match us, hl with | [_, _], _ => rfl)⟩
    have D_Screen_one : MethX (PySem.Challenge.rw_steerscreen_k61_tapes_refused).prog w (ctx K).K mg base CX0 (ctx K).cScreen "one" 7 ["self", "word", "number"] (sp_Screen_one (ctx K)) := ⟨_, fd_Screen_one, (ok_Screen_one (funD_fun FD_Screen_one) T (rd_Screen_one FFScreen) (by intro vs H Q E h; repeat (first | (obtain ⟨rfl, _⟩ := h; rfl) | (obtain ⟨_, h⟩ := h))) D_Screen_shift D_Screen_take_rows D_Screen_roll_down D_Screen_stand D_Screen_put), He.cls_ok (c.fact 67 (f := .cls "Screen") rfl), He.meth_ok (c.fact 98 (f := .meth "Screen" "one") rfl), FD_Screen_one.bindsN (fun _ _ _ _ _ _ us hl => match us, hl with | [_, _, _], _ => rfl)⟩
    have D_Screen_great : MethX (PySem.Challenge.rw_steerscreen_k61_tapes_refused).prog w (ctx K).K mg base CX0 (ctx K).cScreen "great" 8 ["self", "word", "numbers"] (sp_Screen_great (ctx K)) := ⟨_, fd_Screen_great, (ok_Screen_great (funD_fun FD_Screen_great) T (rd_Screen_great FFScreen) (by intro vs H Q E h; repeat (first | (obtain ⟨rfl, _⟩ := h; rfl) | (obtain ⟨_, h⟩ := h))) D_Screen_stand D_Screen_one), He.cls_ok (c.fact 67 (f := .cls "Screen") rfl), He.meth_ok (c.fact 97 (f := .meth "Screen" "great") rfl), FD_Screen_great.bindsN (fun _ _ _ _ _ _ us hl => match us, hl with | [_, _, _], _ => rfl)⟩
    have D_Screen_do : MethX (PySem.Challenge.rw_steerscreen_k61_tapes_refused).prog w (ctx K).K mg base CX0 (ctx K).cScreen "do" 9 ["self", "one"] (sp_Screen_do (ctx K)) := ⟨_, fd_Screen_do, (ok_Screen_do (funD_fun FD_Screen_do) T (rd_Screen_do FFScreen) (by intro vs H Q E h; repeat (first | (obtain ⟨rfl, _⟩ := h; rfl) | (obtain ⟨_, h⟩ := h))) D_Screen_put D_Screen_down D_Screen_stand D_Screen_small D_Screen_great), He.cls_ok (c.fact 67 (f := .cls "Screen") rfl), He.meth_ok (c.fact 87 (f := .meth "Screen" "do") rfl), FD_Screen_do.bindsN (fun _ _ _ _ _ _ us hl => match us, hl with | [_, _], _ => rfl)⟩
    have D_Screen_feed : MethX (PySem.Challenge.rw_steerscreen_k61_tapes_refused).prog w (ctx K).K mg base (L2N.CX _ w) (ctx K).cScreen "feed" 10 ["self", "text"] (sp_Screen_feed (ctx K)) := ⟨_, fd_Screen_feed, (ok_Screen_feed (funD_fun FD_Screen_feed) T (rd_Screen_feed FFScreen FFReader) (by intro vs H Q E h; repeat (first | (obtain ⟨rfl, _⟩ := h; rfl) | (obtain ⟨_, h⟩ := h))) D_Reader_feed D_Screen_do), He.cls_ok (c.fact 67 (f := .cls "Screen") rfl), He.meth_ok (c.fact 86 (f := .meth "Screen" "feed") rfl), FD_Screen_feed.bindsN (fun _ _ _ _ _ _ us hl => match us, hl with | [_, _], _ => rfl)⟩
    have D_Tape_screen_behind : MethX (PySem.Challenge.rw_steerscreen_k61_tapes_refused).prog w (ctx K).K mg base (L2N.CX _ w) (ctx K).cTape "screen_behind" 11 ["self", "tick"] (sp_Tape_screen_behind (ctx K)) := ⟨_, fd_Tape_screen_behind, (ok_Tape_screen_behind (funD_fun FD_Tape_screen_behind) T (rd_Tape_screen_behind FFTape FFScreen) (by intro vs H Q E h; repeat (first | (obtain ⟨rfl, _⟩ := h; rfl) | (obtain ⟨_, h⟩ := h))) D_Screen_init D_Screen_feed), He.cls_ok (c.fact 102 (f := .cls "Tape") rfl), He.meth_ok (c.fact 112 (f := .meth "Tape" "screen_behind") rfl), FD_Tape_screen_behind.bindsN (fun _ _ _ _ _ _ us hl => match us, hl with | [_, _], _ => rfl)⟩
    have D_Tape_page_at : MethX (PySem.Challenge.rw_steerscreen_k61_tapes_refused).prog w (ctx K).K mg base (L2N.CX _ w) (ctx K).cTape "page_at" 12 ["self", "tick"] (sp_Tape_page_at (ctx K)) := ⟨_, fd_Tape_page_at, (ok_Tape_page_at (funD_fun FD_Tape_page_at) T (rd_Tape_page_at FFTape) (by intro vs H Q E h; repeat (first | (obtain ⟨rfl, _⟩ := h; rfl) | (obtain ⟨_, h⟩ := h))) D_Tape_need_tick D_Screen_page D_Tape_screen_behind), He.cls_ok (c.fact 102 (f := .cls "Tape") rfl), He.meth_ok (c.fact 113 (f := .meth "Tape" "page_at") rfl), FD_Tape_page_at.bindsN (fun _ _ _ _ _ _ us hl => match us, hl with | [_, _], _ => rfl)⟩
    have D_Screen_cursor : MethX (PySem.Challenge.rw_steerscreen_k61_tapes_refused).prog w (ctx K).K mg base CX0 (ctx K).cScreen "cursor" 1 ["self"] (sp_Screen_cursor (ctx K)) := ⟨_, fd_Screen_cursor, (ok_Screen_cursor (funD_fun FD_Screen_cursor) T (rd_Screen_cursor FFScreen) (by intro vs H Q E h; repeat (first | (obtain ⟨rfl, _⟩ := h; rfl) | (obtain ⟨_, h⟩ := h))) ), He.cls_ok (c.fact 67 (f := .cls "Screen") rfl), He.meth_ok (c.fact 85 (f := .meth "Screen" "cursor") rfl), FD_Screen_cursor.bindsN (fun _ _ _ _ _ _ us hl => match us, hl with | [_], _ => rfl)⟩
    have D_Tape_cursor_at : MethX (PySem.Challenge.rw_steerscreen_k61_tapes_refused).prog w (ctx K).K mg base (L2N.CX _ w) (ctx K).cTape "cursor_at" 12 ["self", "tick"] (sp_Tape_cursor_at (ctx K)) := ⟨_, fd_Tape_cursor_at, (ok_Tape_cursor_at (funD_fun FD_Tape_cursor_at) T (rd_Tape_cursor_at FFTape) (by intro vs H Q E h; repeat (first | (obtain ⟨rfl, _⟩ := h; rfl) | (obtain ⟨_, h⟩ := h))) D_Tape_need_tick D_Screen_cursor D_Tape_screen_behind), He.cls_ok (c.fact 102 (f := .cls "Tape") rfl), He.meth_ok (c.fact 114 (f := .meth "Tape" "cursor_at") rfl), FD_Tape_cursor_at.bindsN (fun _ _ _ _ _ _ us hl => match us, hl with | [_, _], _ => rfl)⟩
    have D_need : DefX (PySem.Challenge.rw_steerscreen_k61_tapes_refused).prog w (ctx K).K mg base (L2N.CX _ w) "need" 1 ["good"] (sp_need (ctx K)) := ⟨_, fd_need, (ok_need (funD_fun FD_need) T rd_need (by intro vs H Q E h; repeat (first | (obtain ⟨rfl, _⟩ := h; rfl) | (obtain ⟨_, h⟩ := h))) ), He.glo_ok X G (c.fact 120 (f := .glo "need") rfl), FD_need.kp, FD_need.bindsN (fun _ _ _ _ _ _ us hl => match us, hl with | [_], _ => rfl)⟩
    have D_is_pen : DefX (PySem.Challenge.rw_steerscreen_k61_tapes_refused).prog w (ctx K).K mg base CX0 "is_pen" 2 ["thing"] (sp_is_pen (ctx K)) := ⟨_, fd_is_pen, (ok_is_pen (funD_fun FD_is_pen) T rd_is_pen (by intro vs H Q E h; repeat (first | (obtain ⟨rfl, _⟩ := h; rfl) | (obtain ⟨_, h⟩ := h))) D_is_count), He.glo_ok X G (c.fact 121 (f := .glo "is_pen") rfl), FD_is_pen.kp, FD_is_pen.bindsN (fun _ _ _ _ _ _ us hl => match us, hl with | [_], _ => rfl)⟩
    have D_is_cell : DefX (PySem.Challenge.rw_steerscreen_k61_tapes_refused).prog w (ctx K).K mg base CX0 "is_cell" 3 ["thing"] (sp_is_cell (ctx K)) := ⟨_, fd_is_cell, (ok_is_cell (funD_fun FD_is_cell) T rd_is_cell (by intro vs H Q E h; repeat (first | (obtain ⟨rfl, _⟩ := h; rfl) | (obtain ⟨_, h⟩ := h))) D_is_pen D_is_sign), He.glo_ok X G (c.fact 122 (f := .glo "is_cell") rfl), FD_is_cell.kp, FD_is_cell.bindsN (fun _ _ _ _ _ _ us hl => match us, hl with | [_], _ => rfl)⟩
    have D_need_page : DefX (PySem.Challenge.rw_steerscreen_k61_tapes_refused).prog w (ctx K).K mg base (L2N.CX _ w) "need_page" 4 ["page"] (sp_need_page (ctx K)) := ⟨_, fd_need_page, (ok_need_page (funD_fun FD_need_page) T rd_need_page (by intro vs H Q E h; repeat (first | (obtain ⟨rfl, _⟩ := h; rfl) | (obtain ⟨_, h⟩ := h))) D_need D_is_cell), He.glo_ok X G (c.fact 123 (f := .glo "need_page") rfl), FD_need_page.kp, FD_need_page.bindsN (fun _ _ _ _ _ _ us hl => match us, hl with | [_], _ => rfl)⟩
    have D_changes : DefX (PySem.Challenge.rw_steerscreen_k61_tapes_refused).prog w (ctx K).K mg base (L2N.CX _ w) "changes" 5 ["page", "other"] (sp_changes (ctx K)) := ⟨_, fd_changes, (ok_changes (funD_fun FD_changes) T rd_changes (by intro vs H Q E h; repeat (first | (obtain ⟨rfl, _⟩ := h; rfl) | (obtain ⟨_, h⟩ := h))) D_need_page D_need), He.glo_ok X G (c.fact 124 (f := .glo "changes") rfl), FD_changes.kp, FD_changes.bindsN (fun _ _ _ _ _ _ us hl => match us, hl with | [_, _], _ => rfl)⟩
    have D_Tape_changes_at : MethX (PySem.Challenge.rw_steerscreen_k61_tapes_refused).prog w (ctx K).K mg base (L2N.CX _ w) (ctx K).cTape "changes_at" 12 ["self", "tick"] (sp_Tape_changes_at (ctx K)) := ⟨_, fd_Tape_changes_at, (ok_Tape_changes_at (funD_fun FD_Tape_changes_at) T (rd_Tape_changes_at FFTape) (by intro vs H Q E h; repeat (first | (obtain ⟨rfl, _⟩ := h; rfl) | (obtain ⟨_, h⟩ := h))) D_Tape_need_tick D_changes D_Screen_page D_Tape_screen_behind), He.cls_ok (c.fact 102 (f := .cls "Tape") rfl), He.meth_ok (c.fact 115 (f := .meth "Tape" "changes_at") rfl), FD_Tape_changes_at.bindsN (fun _ _ _ _ _ _ us hl => match us, hl with | [_, _], _ => rfl)⟩
    have D_Tape_first_with : MethX (PySem.Challenge.rw_steerscreen_k61_tapes_refused).prog w (ctx K).K mg base (L2N.CX _ w) (ctx K).cTape "first_with" 12 ["self", "word"] (sp_Tape_first_with (ctx K)) := ⟨_, fd_Tape_first_with, (ok_Tape_first_with (funD_fun FD_Tape_first_with) T (rd_Tape_first_with FFTape) (by intro vs H Q E h; repeat (first | (obtain ⟨rfl, _⟩ := h; rfl) | (obtain ⟨_, h⟩ := h))) D_is_sign D_Screen_page D_Tape_screen_behind), He.cls_ok (c.fact 102 (f := .cls "Tape") rfl), He.meth_ok (c.fact 116 (f := .meth "Tape" "first_with") rfl), FD_Tape_first_with.bindsN (fun _ _ _ _ _ _ us hl => match us, hl with | [_, _], _ => rfl)⟩
    have TB := hTB _ List.mem_cons_self
    have WO : WordOk (PySem.Challenge.rw_steerscreen_k61_tapes_refused).prog w (ctx K).K mg base (bads7 (ctx K)) := word_ok (funD_fun FD__law_word) T (He.glo_ok X G (c.fact 131 (f := .glo "_law_word") rfl)) (says_Bads Y.more)
    have TOLD : ToldN (PySem.Challenge.rw_steerscreen_k61_tapes_refused).prog w (ctx K).K mg base (defArgs st__law_told) (defBody st__law_told) (defScope st__law_told) (bads7 (ctx K)) := toldOkN WO (says_Bads Y.more) (funD_fun FD__law_told) (He.glo_ok X G (c.fact 130 (f := .glo "_law_told") rfl)) (He.glo_ok X G (c.fact 50 (f := .glo "ScreenError") rfl))
    have hcl' : fd_law.code = .ref (He.cT K ("law", none)).1 := by rw [hcl]; exact congrArg Value.ref eC.symm
    exact (ok_law (c := ctx K) (funD_fun FD_law) hcl' rfl TB TOLD T (rd_law FFTape) (by intro vs H Q E h; repeat (first | (obtain ⟨rfl, _⟩ := h; rfl) | (obtain ⟨_, h⟩ := h))) D__law_drawn D__law_cell D_Tape_init D_Tape_record D_Tape_records D_Tape_undo D_Tape_length D_Tape_page_at D_Tape_cursor_at D_Tape_changes_at D_Tape_first_with).mono (by decide)
end Ss
open PySem PySem.W PySem.Calls PyProof.Rows in
theorem PySem.Challenge.cw_steerscreen_k61_tapes_refused_holds : PySem.Challenge.rw_steerscreen_k61_tapes_refused.Holds := by
  w_on; o_law
  refine HandSHeadRun.head_any (r := OpenLaw.row PySem.Challenge.rw_steerscreen_k61_tapes_refused) (q := view (OpenLaw.row PySem.Challenge.rw_steerscreen_k61_tapes_refused).prog [53]) (H := Ss.hkk) (ob := Ss.ob) (M := 5000) (loose := Ss.loose) (d := HandSHeadRun.topDef (OpenLaw.row PySem.Challenge.rw_steerscreen_k61_tapes_refused).prog 53) (kwd := []) Ss.ob_eq
    (by kernel_rfl) (fun s => by kernel_rfl) Ss.run (by kernel_rfl) (by kernel_rfl) (by kernel_rfl) (by rfl) (by first | assumption | decide +kernel) (by decide +kernel) ⟨rfl, rfl, rfl, rfl, rfl, by decide +kernel⟩ ?hw ?hc
  case hw => w_witness2
  case hc =>
    refine LamX.walk_ofTsE (l := PySem.Challenge.rw_steerscreen_k61_tapes_refused) (n := 63) (k := 15) (x := "_law_script") (CX := fun _ => L2.CX0) rfl (by decide) (by kernel_rfl) ⟨rfl, by decide, by decide⟩ ?F (fun _ _ _ _ _ z => z)
    intro w mg fa h Y G hmg0
    have hmg : mg ("law" : PySem.Str) = some (.ref fa) := by
      have e : (HandSHeadRun.topDef (OpenLaw.row PySem.Challenge.rw_steerscreen_k61_tapes_refused).prog 53).name = ("law" : PySem.Str) := by kernel_rfl
      rw [← e]
      exact hmg0
    exact Ss.law_at G hmg Y
