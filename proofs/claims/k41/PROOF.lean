import PyProof.Rows.All
import HandS.Head0
import HandS.Head1
import HandS.Head2
import HandS.HeadHook4
import HandS.HeadWalk
import PySem.Challenge.RW_steerscreen_k41_whole_text_laid_anew
import Wide.All
import OpenK.AllK
import Wide.FinOn
import HandS.ForMost
import HandS.ForExc
import HandS.Evl
import HandS.Wide
import HandS.WideBits
import HandS.Conv
import HandS.TupAny
import HandS.TupMul
import HandS.StrMore
import HandS.ReplaceLit
import HandS.ReplaceList
import HandS.Style
import HandS.Lambda
import HandS.EndTab
import HandS.CallRecv
import HandS.IsInst
import HandS.Steps
import PyProof.Rows.RegReprOcc
import HandS.Strs
import HandS.Zip
set_option Elab.async false
set_option linter.all false
set_option maxRecDepth 100000
set_option maxHeartbeats 4000000
/-! ## Part 1: the split heap: F stands still (but for code tables), L is one's own -/
namespace Ss
open PySem PySem.Spec PyProof.Rows L2

abbrev Gr (F F' : Hp) : Prop := LamX.ExtN F F'
theorem Gr.refl (F : Hp) : Gr F F := LamX.ExtN.refl F
theorem Gr.trans {F F1 F2 : Hp} (a : Gr F F1) (b : Gr F1 F2) : Gr F F2 := LamX.ExtN.trans a b
theorem Gr.of {F F' : Hp} (e : Same F F') : Gr F F' := fun b o h _ => e b o h
theorem Gr.lst {F F' : Hp} (g : Gr F F') {a : Addr} {xs : List V} (h : F a = some (.lst xs)) : F' a = some (.lst xs) := g a _ h (fun _ z => by cases z)
theorem Gr.tup {F F' : Hp} (g : Gr F F') {a : Addr} {xs : List V} (h : F a = some (.tup xs)) : F' a = some (.tup xs) := g a _ h (fun _ z => by cases z)
theorem Gr.ins {F F' : Hp} (g : Gr F F') {a C dx : Addr} {xs : List (Str × V)} (h : F a = some (.ins C dx xs)) : F' a = some (.ins C dx xs) := g a _ h (fun _ z => by cases z)
theorem Gr.sqL {K : PySem.W.Frag} {F F' : Hp} {a : Addr} {xs : List V} (g : Gr F F') (h : SqL K F a xs) : SqL K F' a xs := by
  rcases h with (h | ⟨o, h⟩) | h
  · exact .inl (.inl (g _ _ h (fun _ z => by cases z)))
  · exact .inl (.inr ⟨o, g _ _ h (fun _ z => by cases z)⟩)
  · exact .inr h
theorem Gr.sqT {K : PySem.W.Frag} {F F' : Hp} {a : Addr} {xs : List V} (g : Gr F F') (h : SqT K F a xs) : SqT K F' a xs := by
  rcases h with (h | ⟨o, h⟩) | h
  · exact .inl (.inl (g _ _ h (fun _ z => by cases z)))
  · exact .inl (.inr ⟨o, g _ _ h (fun _ z => by cases z)⟩)
  · exact .inr h
mutual
theorem Gr.dp {K : PySem.W.Frag} {F F' : Hp} (g : Gr F F') : ∀ {d : PyData} {v : V}, Dp K F v d → Dp K F' v d
  | .none, _, h => by cases h; exact .non
  | .bool b, _, h => by cases h; exact .bl b
  | .int i, _, h => by cases h; exact .int i
  | .str x, _, h => by cases h; exact .str x
  | .list ds, _, h => by cases h with | lst hs ha => exact .lst (g.sqL hs) (Gr.dpAll g ha)
  | .tuple ds, _, h => by cases h with | tup hs ha => exact .tup (g.sqT hs) (Gr.dpAll g ha)
  | .dict _, _, h => by cases h
theorem Gr.dpAll {K : PySem.W.Frag} {F F' : Hp} (g : Gr F F') : ∀ {ds : List PyData} {vs : List V}, DpAll K F vs ds → DpAll K F' vs ds
  | [], _, h => by cases h; exact .nil
  | d :: ds, _, h => by cases h with | cons h1 h2 => exact .cons (Gr.dp g h1) (Gr.dpAll g h2)
end

/-- F stands (shared, never written), L is owned (may be written): both lie in H, apart -/
structure Hold (F : Hp) (L : List (Addr × HO)) (H : Hp) : Prop where
  old : ∀ a o, F a = some o → H a = some o
  own : ∀ x ∈ L, H x.1 = some x.2
  sep : ∀ x ∈ L, F x.1 = none
  nd : (L.map (·.1)).Nodup
section
variable {F F' H : Hp} {L L' : List (Addr × HO)} {p a : Addr} {o o' : HO} {i : Nat}
theorem Hold.start (H : Hp) : Hold H [] H := ⟨fun _ _ h => h, fun _ h => (nomatch h), fun _ h => (nomatch h), List.nodup_nil⟩
theorem Hold.gr (W : Hold F L H) : Gr F H := fun a o h _ => W.old a o h
theorem Hold.same (W : Hold F L H) : Same F H := W.old
theorem Hold.fresh (W : Hold F L H) (h : H p = none) : F p = none := by
  cases e : F p with
  | none => rfl
  | some o => rw [W.old p o e] at h; cases h
theorem Hold.freshL (W : Hold F L H) (h : H p = none) : ∀ x ∈ L, x.1 ≠ p := fun x hx e => by
  have := W.own x hx
  rw [e, h] at this; cases this
theorem same_new (h : F p = none) : Same F (upd F p o) := fun b u e => by rw [upd_ne (ne_of_none e h)]; exact e
theorem Hold.alloc (W : Hold F L H) (h : H p = none) : Hold (upd F p o) L (upd H p o) where
  old := fun b u e => by
    by_cases hb : b = p
    · subst hb; rw [upd_same] at e ⊢; exact e
    · rw [upd_ne hb] at e ⊢; exact W.old b u e
  own := fun x hx => by rw [upd_ne (W.freshL h x hx)]; exact W.own x hx
  sep := fun x hx => by rw [upd_ne (W.freshL h x hx)]; exact W.sep x hx
  nd := W.nd
theorem Hold.make (W : Hold F L H) (h : H p = none) : Hold F ((p, o) :: L) (upd H p o) where
  old := fun b u e => by rw [upd_ne (ne_of_none (W.old b u e) h)]; exact W.old b u e
  own := fun x hx => by
    rcases List.mem_cons.mp hx with rfl | hx
    · exact upd_same
    · rw [upd_ne (W.freshL h x hx)]; exact W.own x hx
  sep := fun x hx => by
    rcases List.mem_cons.mp hx with rfl | hx
    · exact W.fresh h
    · exact W.sep x hx
  nd := by
    rw [List.map_cons, List.nodup_cons]
    exact ⟨fun hm => by obtain ⟨x, hx, e⟩ := List.mem_map.mp hm; exact W.freshL h x hx e, W.nd⟩
theorem Hold.freeze (W : Hold F ((p, o) :: L) H) : Hold (upd F p o) L H where
  old := fun b u e => by
    by_cases hb : b = p
    · subst hb; rw [upd_same] at e; cases e; exact W.own _ List.mem_cons_self
    · rw [upd_ne hb] at e; exact W.old b u e
  own := fun x hx => W.own x (List.mem_cons_of_mem _ hx)
  sep := fun x hx => by
    have n := W.nd
    rw [List.map_cons, List.nodup_cons] at n
    rw [upd_ne (fun e => n.1 (List.mem_map.mpr ⟨x, hx, e⟩))]; exact W.sep x (List.mem_cons_of_mem _ hx)
  nd := by have n := W.nd; rw [List.map_cons, List.nodup_cons] at n; exact n.2
theorem Hold.freezeS (W : Hold F ((p, o) :: L) H) : Same F (upd F p o) := same_new (W.sep _ List.mem_cons_self)
theorem Hold.sub (W : Hold F L H) (s : List.Sublist L' L) : Hold F L' H :=
  ⟨W.old, fun x hx => W.own x (s.subset hx), fun x hx => W.sep x (s.subset hx), (s.map _).nodup W.nd⟩
theorem Hold.drop {x : Addr × HO} (W : Hold F (x :: L) H) : Hold F L H := W.sub (List.sublist_cons_self _ _)
theorem Hold.nil (W : Hold F L H) : Hold F [] H := W.sub (List.nil_sublist _)
theorem Hold.perm (W : Hold F L H) (s : List.Perm L L') : Hold F L' H :=
  ⟨W.old, fun x hx => W.own x (s.mem_iff.mpr hx), fun x hx => W.sep x (s.mem_iff.mpr hx), (s.map _).nodup_iff.mp W.nd⟩
theorem Hold.get (W : Hold F L H) (i : Nat) (h : L[i]? = some (a, o)) : H a = some o := W.own (a, o) (List.mem_of_getElem? h)
theorem map_fst_set {l : List (Addr × HO)} (h : l[i]? = some (a, o)) : (l.set i (a, o')).map (·.1) = l.map (·.1) := by
  rw [List.map_set]
  apply List.ext_getElem?
  intro j
  rw [List.getElem?_set]
  split
  · rename_i e; subst e
    split
    · rw [List.getElem?_map, h]; rfl
    · rename_i hl
      rw [List.getElem?_eq_none (by omega)]
  · rfl
theorem key_inj : ∀ {l : List (Addr × HO)}, (l.map (·.1)).Nodup → ∀ x ∈ l, ∀ y ∈ l, x.1 = y.1 → x = y
  | [], _, x, hx, _, _, _ => (nomatch hx)
  | z :: l, n, x, hx, y, hy, e => by
    rw [List.map_cons, List.nodup_cons] at n
    rcases List.mem_cons.mp hx with h1 | h1
    · rcases List.mem_cons.mp hy with h2 | h2
      · rw [h1, h2]
      · exact absurd (List.mem_map.mpr ⟨y, h2, by rw [← e, h1]⟩) n.1
    · rcases List.mem_cons.mp hy with h2 | h2
      · exact absurd (List.mem_map.mpr ⟨x, h1, by rw [e, h2]⟩) n.1
      · exact key_inj n.2 x h1 y h2 e
theorem Hold.put (W : Hold F L H) (i : Nat) (h : L[i]? = some (a, o)) : Hold F (L.set i (a, o')) (upd H a o') where
  old := fun b u e => by
    have hs := W.sep (a, o) (List.mem_of_getElem? h)
    rw [upd_ne (ne_of_none e hs)]; exact W.old b u e
  own := fun x hx => by
    rcases List.mem_or_eq_of_mem_set hx with hx' | rfl
    · by_cases e : x.1 = a
      · -- the key stands once
        have hn : ((L.set i (a, o')).map (·.1)).Nodup := by rw [map_fst_set h]; exact W.nd
        have hi : i < L.length := (List.getElem?_eq_some_iff.mp h).1
        have h1 : (L.set i (a, o'))[i]? = some (a, o') := by rw [List.getElem?_set_self hi]
        have z : x = (a, o') := key_inj hn x hx _ (List.mem_of_getElem? h1) e
        rw [z]; exact upd_same
      · rw [upd_ne e]; exact W.own x hx'
    · exact upd_same
  sep := fun x hx => by
    rcases List.mem_or_eq_of_mem_set hx with hx' | rfl
    · exact W.sep x hx'
    · exact W.sep (a, o) (List.mem_of_getElem? h)
  nd := by rw [map_fst_set h]; exact W.nd
/-- the head of one's own -/
theorem Hold.put0 (W : Hold F ((a, o) :: L) H) : Hold F ((a, o') :: L) (upd H a o') := W.put 0 rfl
theorem Hold.get0 (W : Hold F ((a, o) :: L) H) : H a = some o := W.get 0 rfl
theorem Hold.put1 {x : Addr × HO} (W : Hold F (x :: (a, o) :: L) H) : Hold F (x :: (a, o') :: L) (upd H a o') := W.put 1 rfl
theorem Hold.get1 {x : Addr × HO} (W : Hold F (x :: (a, o) :: L) H) : H a = some o := W.get 1 rfl
/-- a new instance -/
theorem Hold.inst {C dx : Addr} (W : Hold F L H) (h : H p = none) (hd : H dx = none) (ne : dx ≠ p) : Hold F ((p, .ins C dx []) :: L) (upd (upd H dx (.own p)) p (.ins C dx [])) := by
  have W1 : Hold F L (upd H dx (.own p)) := (W.make (o := .own p) hd).drop
  exact W1.make (by rw [upd_ne (Ne.symm ne)]; exact h)
/-- the own ones move over into F, for a call that is not to touch them -/
theorem Hold.more (W : Hold F L H) (g : Gr H H) : True := True.intro
end
end Ss
/-! ## Part 2: one rule an operator, whatever the kinds of its operands; bundles of defs -/
namespace Ss
open PySem PySem.Spec PyProof.Rows L2

/-! ### operators -/
def rAddS : R2 := fun x y H Q => ∃ i j, x = .str i ∧ y = .str j ∧ i.length + j.length ≤ sizeLine ∧ Q (.str (i ++ j)) H
def rAddB : R2 := fun x y H Q => ∃ i k, x = .int i ∧ y = .bl k ∧ Q (.int (i + b2i k)) H
def uAdd (K : PySem.W.Frag) : R2 := fun x y H Q => rI0 (fun i j => .int (i + j)) x y H Q ∨ rAddS x y H Q ∨ rCat x y H Q ∨ rCatA K x y H Q ∨ rAddB x y H Q
def uSub : R2 := rI0 fun i j => .int (i - j)
def rRepS : R2 := fun x y H Q => ∃ a k, x = .str a ∧ y = .int k ∧ -100000 ≤ k ∧ k ≤ 100000 ∧ a.length ≤ 100 ∧ Q (.str (Txt.mul a k)) H
theorem op_repS {X : Cx} : OpR X (binaryOp .Mult) rRepS := by
  intro pins s σ H x y v u Q I rx ry h
  obtain ⟨a, k, rfl, rfl, h1, h2, hl, q⟩ := h
  obtain ⟨t, rfl⟩ := rx
  obtain ⟨t', rfl⟩ := ry
  exact SB.mul (mulOk_of 100 100000 hl h2 (by omega) (by decide) (by decide)) fun t' tk => ⟨.str (Txt.mul a k), H, I.tok _, ⟨_, rfl⟩, q⟩
def uMul (K : PySem.W.Frag) : R2 := fun x y H Q => rI CMulX (fun i j => .int (i * j)) x y H Q ∨ rRep x y H Q ∨ rRepS x y H Q ∨ rRepT K x y H Q
def uDiv : R2 := rI CDivW fun i j => .int (i / j)
def uMod : R2 := rI (fun _ j => 0 < j) fun i j => .int (i % j)
def uPow : R2 := rI CPow fun i j => .int (i ^ j.toNat)
def rLtS : R2 := fun x y H Q => ∃ i j, x = .str i ∧ y = .str j ∧ Q (.bl (decide (i.cps.toList < j.cps.toList))) H
def rLeS : R2 := fun x y H Q => ∃ i j, x = .str i ∧ y = .str j ∧ Q (.bl (!decide (j.cps.toList < i.cps.toList))) H
def uLt : R2 := fun x y H Q => rI0 (fun i j => .bl (decide (i < j))) x y H Q ∨ rLtS x y H Q
def uLe : R2 := fun x y H Q => rI0 (fun i j => .bl (decide (i ≤ j))) x y H Q ∨ rLeS x y H Q
def uGt : R2 := rI0 fun i j => .bl (decide (j < i))
def uGe : R2 := rI0 fun i j => .bl (decide (j ≤ i))
def uEq (K : PySem.W.Frag) : R2 := fun x y H Q => rEq x y H Q ∨ rEqD K x y H Q
def uNe (K : PySem.W.Frag) : R2 := fun x y H Q => rNe x y H Q ∨ rNeD K x y H Q
def rInG : R2 := fun x y H Q => ∃ (c : Nat) (z : Str), x = .str ⟨#[c]⟩ ∧ y = .str z ∧ Q (.bl (decide (c ∈ z.cps.toList))) H
def rNotInG : R2 := fun x y H Q => ∃ (c : Nat) (z : Str), x = .str ⟨#[c]⟩ ∧ y = .str z ∧ Q (.bl (!decide (c ∈ z.cps.toList))) H
def uIn (K : PySem.W.Frag) : R2 := fun x y H Q => rInG x y H Q ∨ rIn K false x y H Q
def uNotIn (K : PySem.W.Frag) : R2 := fun x y H Q => rNotInG x y H Q ∨ rIn K true x y H Q
def uIs : R2 := fun x y H Q => y = .non ∧ Q (.bl (decide (x = .non))) H
def uIsNot : R2 := fun x y H Q => y = .non ∧ Q (.bl (!decide (x = .non))) H
section
variable {X : Cx}
theorem oAdd : OpR X (binaryOp .Add) (uAdd X.K) := by
  intro pins s σ H x y v u Q I rx ry h
  rcases h with h | h | h | h | h
  · exact op_add pins s σ H x y v u Q I rx ry h
  · exact op_add_str pins s σ H x y v u Q I rx ry h
  · exact op_cat pins s σ H x y v u Q I rx ry h
  · exact op_catA pins s σ H x y v u Q I rx ry h
  · exact op_add_ib pins s σ H x y v u Q I rx ry h
theorem oSub : OpR X (binaryOp .Sub) uSub := op_sub
theorem oMul : OpR X (binaryOp .Mult) (uMul X.K) := by
  intro pins s σ H x y v u Q I rx ry h
  rcases h with h | h | h | h
  · exact op_mulX pins s σ H x y v u Q I rx ry h
  · exact op_rep pins s σ H x y v u Q I rx ry h
  · exact op_repS pins s σ H x y v u Q I rx ry h
  · exact op_repT pins s σ H x y v u Q I rx ry h
theorem oDiv : OpR X (binaryOp .FloorDiv) uDiv := op_fdivW
theorem oMod : OpR X (binaryOp .Mod) uMod := op_mod
theorem oPow : OpR X (binaryOp .Pow) uPow := op_pow
theorem oLt : OpR X (compareOp .Lt) uLt := by
  intro pins s σ H x y v u Q I rx ry h
  rcases h with h | h
  · exact op_lt pins s σ H x y v u Q I rx ry h
  · exact op_lt_str pins s σ H x y v u Q I rx ry h
theorem oLe : OpR X (compareOp .LtE) uLe := by
  intro pins s σ H x y v u Q I rx ry h
  rcases h with h | h
  · exact op_le pins s σ H x y v u Q I rx ry h
  · exact op_le_str pins s σ H x y v u Q I rx ry h
theorem oGt : OpR X (compareOp .Gt) uGt := op_gt
theorem oGe : OpR X (compareOp .GtE) uGe := op_ge
theorem oEq (hu : X.A.units + 64 < cLine) : OpR X (compareOp .Eq) (uEq X.K) := by
  intro pins s σ H x y v u Q I rx ry h
  rcases h with h | h
  · exact op_eq pins s σ H x y v u Q I rx ry h
  · exact op_eqD hu pins s σ H x y v u Q I rx ry h
theorem oNe (hu : X.A.units + 64 < cLine) : OpR X (compareOp .NotEq) (uNe X.K) := by
  intro pins s σ H x y v u Q I rx ry h
  rcases h with h | h
  · exact op_ne pins s σ H x y v u Q I rx ry h
  · exact op_neD hu pins s σ H x y v u Q I rx ry h
theorem oIn : OpR X (compareOp .In) (uIn X.K) := by
  intro pins s σ H x y v u Q I rx ry h
  rcases h with h | h
  · exact op_in_sign pins s σ H x y v u Q I rx ry h
  · exact op_in_seq pins s σ H x y v u Q I rx ry h
theorem oNotIn : OpR X (compareOp .NotIn) (uNotIn X.K) := by
  intro pins s σ H x y v u Q I rx ry h
  rcases h with h | h
  · exact op_notIn_sign pins s σ H x y v u Q I rx ry h
  · exact op_notIn_seq pins s σ H x y v u Q I rx ry h
theorem oIs : OpR X (compareOp .Is) uIs := op_isN
theorem oIsNot : OpR X (compareOp .IsNot) uIsNot := op_notN
end

/-! ### leaves of operators -/
section
variable {K : PySem.W.Frag} {H F : Hp} {L : List (Addr × HO)} {Q : VK} {i j : Int} {a b : Str} {p q : Addr} {xs ys : List V} {x y : V} {c : Nat}
theorem l_addI (h : Q (.int (i + j)) H) : uAdd K (.int i) (.int j) H Q := .inl ⟨_, _, rfl, rfl, h⟩
theorem l_addS (hl : a.length + b.length ≤ sizeLine) (h : Q (.str (a ++ b)) H) : uAdd K (.str a) (.str b) H Q := .inr (.inl ⟨_, _, rfl, rfl, hl, h⟩)
theorem l_addL (hp : H p = some (.lst xs)) (hq : H q = some (.lst ys)) (hl : xs.length + ys.length ≤ sizeLine) (h : ∀ r, H r = none → Q (.ref r) (upd H r (.lst (xs ++ ys)))) : uAdd K (.ref p) (.ref q) H Q :=
  .inr (.inr (.inl ⟨_, _, _, _, rfl, rfl, hp, hq, hl, h⟩))
theorem l_addT (hp : SqT K H p xs) (hq : SqT K H q ys) (hl : xs.length + ys.length ≤ sizeLine) (h0 : xs = [] → Q (.ref q) H) (h1 : xs ≠ [] → ys = [] → Q (.ref p) H) (h : xs ≠ [] → ys ≠ [] → ∀ r, H r = none → Q (.ref r) (upd H r (.tup (xs ++ ys)))) : uAdd K (.ref p) (.ref q) H Q :=
  .inr (.inr (.inr (.inl ⟨_, _, _, _, rfl, rfl, hp, hq, hl, h0, h1, h⟩)))
theorem l_addB {k : Bool} (h : Q (.int (i + b2i k)) H) : uAdd K (.int i) (.bl k) H Q := .inr (.inr (.inr (.inr ⟨_, _, rfl, rfl, h⟩)))
theorem l_subI (h : Q (.int (i - j)) H) : uSub (.int i) (.int j) H Q := ⟨_, _, rfl, rfl, h⟩
theorem l_mulI (hc : CMulX i j) (h : Q (.int (i * j)) H) : uMul K (.int i) (.int j) H Q := .inl ⟨_, _, rfl, rfl, hc, h⟩
theorem l_mulL (hp : H p = some (.lst xs)) (h1 : -(2 ^ 63) ≤ j) (h2 : j < 2 ^ 63) (hl : xs.length * j.toNat ≤ sizeLine) (h : ∀ r, H r = none → Q (.ref r) (upd H r (.lst (List.replicate j.toNat xs).flatten))) : uMul K (.ref p) (.int j) H Q :=
  .inr (.inl ⟨_, _, _, rfl, rfl, hp, h1, h2, hl, h⟩)
theorem l_mulS (h1 : -100000 ≤ j) (h2 : j ≤ 100000) (hl : a.length ≤ 100) (h : Q (.str (Txt.mul a j)) H) : uMul K (.str a) (.int j) H Q := .inr (.inr (.inl ⟨_, _, rfl, rfl, h1, h2, hl, h⟩))
theorem l_mulT (hp : SqT K H p xs) (hne : xs ≠ []) (h1 : 2 ≤ j) (h2 : j ≤ 1000) (hl : xs.length ≤ 1000) (h : ∀ r, H r = none → Q (.ref r) (upd H r (.tup (List.replicate j.toNat xs).flatten))) : uMul K (.ref p) (.int j) H Q := .inr (.inr (.inr ⟨_, _, _, rfl, rfl, hp, hne, h1, h2, hl, h⟩))
theorem l_divI (hc : CDivW i j) (h : Q (.int (i / j)) H) : uDiv (.int i) (.int j) H Q := ⟨_, _, rfl, rfl, hc, h⟩
theorem l_modI (hc : 0 < j) (h : Q (.int (i % j)) H) : uMod (.int i) (.int j) H Q := ⟨_, _, rfl, rfl, hc, h⟩
theorem l_powI (hc : CPow i j) (h : Q (.int (i ^ j.toNat)) H) : uPow (.int i) (.int j) H Q := ⟨_, _, rfl, rfl, hc, h⟩
theorem l_ltI (h : Q (.bl (decide (i < j))) H) : uLt (.int i) (.int j) H Q := .inl ⟨_, _, rfl, rfl, h⟩
theorem l_ltS (h : Q (.bl (decide (a.cps.toList < b.cps.toList))) H) : uLt (.str a) (.str b) H Q := .inr ⟨_, _, rfl, rfl, h⟩
theorem l_leI (h : Q (.bl (decide (i ≤ j))) H) : uLe (.int i) (.int j) H Q := .inl ⟨_, _, rfl, rfl, h⟩
theorem l_leS (h : Q (.bl (!decide (b.cps.toList < a.cps.toList))) H) : uLe (.str a) (.str b) H Q := .inr ⟨_, _, rfl, rfl, h⟩
theorem l_gtI (h : Q (.bl (decide (j < i))) H) : uGt (.int i) (.int j) H Q := ⟨_, _, rfl, rfl, h⟩
theorem l_geI (h : Q (.bl (decide (j ≤ i))) H) : uGe (.int i) (.int j) H Q := ⟨_, _, rfl, rfl, h⟩
theorem l_eq (hs : scal x y = true) (h : Q (.bl (decide (x = y))) H) : uEq K x y H Q := .inl ⟨hs, h⟩
theorem l_ne (hs : scal x y = true) (h : Q (.bl (!decide (x = y))) H) : uNe K x y H Q := .inl ⟨hs, h⟩
theorem l_eqD {d e : PyData} (hx : Dp K H x d) (hy : Dp K H y e) (sd : SeqAt.shaped d = true) (se : SeqAt.shaped e = true) (h : Q (.bl (PyData.eqv d e)) H) : uEq K x y H Q := .inr ⟨d, e, hx, hy, sd, se, h⟩
theorem l_neD {d e : PyData} (hx : Dp K H x d) (hy : Dp K H y e) (sd : SeqAt.shaped d = true) (se : SeqAt.shaped e = true) (h : Q (.bl (!PyData.eqv d e)) H) : uNe K x y H Q := .inr ⟨d, e, hx, hy, sd, se, h⟩
theorem l_inS (h : Q (.bl (decide (c ∈ b.cps.toList))) H) : uIn K (.str ⟨#[c]⟩) (.str b) H Q := .inl ⟨c, b, rfl, rfl, h⟩
theorem l_niS (h : Q (.bl (!decide (c ∈ b.cps.toList))) H) : uNotIn K (.str ⟨#[c]⟩) (.str b) H Q := .inl ⟨c, b, rfl, rfl, h⟩
theorem l_inT (hp : SqL K H p xs ∨ SqT K H p xs) (hx : flatV x = true) (ha : xs.all flatV = true) (h : Q (.bl (inV x xs)) H) : uIn K x (.ref p) H Q := .inr ⟨p, xs, rfl, hp, hx, ha, h⟩
theorem l_niT (hp : SqL K H p xs ∨ SqT K H p xs) (hx : flatV x = true) (ha : xs.all flatV = true) (h : Q (.bl (!inV x xs)) H) : uNotIn K x (.ref p) H Q := .inr ⟨p, xs, rfl, hp, hx, ha, h⟩
theorem l_is (h : Q (.bl (decide (x = .non))) H) : uIs x .non H Q := ⟨rfl, h⟩
theorem l_isn (h : Q (.bl (!decide (x = .non))) H) : uIsNot x .non H Q := ⟨rfl, h⟩
end

/-! ### subscripts, slices, built-ins -/
def uIx (K : PySem.W.Frag) : R2 := rIx K
def uSl (K : PySem.W.Frag) : V → Option Int → Option Int → Hp → VK → Prop := fun x lo hi H Q => rSlL K x lo hi H Q ∨ rSlS x lo hi H Q ∨ rSlA K x lo hi H Q
def uLen (K : PySem.W.Frag) : List V → Hp → VK → Prop := fun xs H Q => (∃ x n, xs = [x] ∧ LenV K x H n ∧ Q (.int n) H) ∨ ∃ a kvs, xs = [V.ref a] ∧ H a = some (.dK kvs) ∧ Q (.int kvs.length) H
def uInt : List V → Hp → VK → Prop := fun xs H Q => (∃ i, xs = [.int i] ∧ Q (.int i) H) ∨ (∃ k, xs = [.bl k] ∧ Q (.int (if k then 1 else 0)) H) ∨ ∃ a n, xs = [.str a] ∧ PySem.intText? a = some n ∧ a.length ≤ 640 ∧ Q (.int n) H
def uStr : List V → Hp → VK → Prop := fun xs H Q => ∃ i, xs = [.int i] ∧ i.natAbs.log2 < 1920 ∧ Q (.str (toString i)) H
def uMax : List V → Hp → VK → Prop := fun xs H Q => ∃ i j, xs = [.int i, .int j] ∧ Q (.int (if j > i then j else i)) H
def uMin : List V → Hp → VK → Prop := fun xs H Q => ∃ i j, xs = [.int i, .int j] ∧ Q (.int (if j < i then j else i)) H
def uOrd : List V → Hp → VK → Prop := fun xs H Q => ∃ x, xs = [.str x] ∧ x.length = 1 ∧ Q (.int (x.cps.getD 0 0 : Nat)) H
def uList (K : PySem.W.Frag) : List V → Hp → VK → Prop := fun xs H Q => ∃ p ys, xs = [.ref p] ∧ (SqL K H p ys ∨ SqT K H p ys) ∧ ∀ l, H l = none → Q (.ref l) (upd H l (.lst ys))
def uTuple (K : PySem.W.Frag) : List V → Hp → VK → Prop := fun xs H Q => ∃ p ys, xs = [.ref p] ∧ ((SqL K H p ys ∧ ∀ l, H l = none → Q (.ref l) (upd H l (.tup ys))) ∨ (SqT K H p ys ∧ Q (.ref p) H))
section
variable {X : Cx}
theorem iIx : IxR X (uIx X.K) := ix_seq
theorem sSl : SlR X (uSl X.K) := by
  intro pins s σ H x v vl vu lo hi sl Q I rx hs pl pu h
  rcases h with h | h | h
  · exact sl_list pins s σ H x v vl vu lo hi sl Q I rx hs pl pu h
  · exact sl_str pins s σ H x v vl vu lo hi sl Q I rx hs pl pu h
  · exact sl_tupA pins s σ H x v vl vu lo hi sl Q I rx hs pl pu h
theorem cLen : CallR X (.builtin "len") (uLen X.K) := by
  intro pins s σ H xs us Q I r h
  rcases h with h | h
  · exact call_len pins s σ H xs us Q I r h
  · exact call_lenD pins s σ H xs us Q I r h
theorem cInt : CallR X (.type "int") uInt := by
  intro pins s σ H xs us Q I r h
  rcases h with h | h | h
  · exact call_int1 pins s σ H xs us Q I r (.inl h)
  · exact call_int1 pins s σ H xs us Q I r (.inr h)
  · exact call_int_str pins s σ H xs us Q I r h
theorem cStr : CallR X (.type "str") uStr := call_str_int
theorem cMax (hc : X.calm = true) : CallR X (.builtin "max") uMax := call_max2 hc
theorem cMin (hc : X.calm = true) : CallR X (.builtin "min") uMin := call_min2 hc
theorem cOrd : CallR X (.builtin "ord") uOrd := call_ord
theorem cList : CallR X (.type "list") (uList X.K) := call_list_of
theorem cTuple : CallR X (.type "tuple") (uTuple X.K) := call_tuple_of
end
end Ss
/-! ## Part 3: leaves of subscripts, built-ins; displays; calls; one step lemma a construct -/
namespace Ss
open PySem PySem.Spec PyProof.Rows L2

section
variable {K : PySem.W.Frag} {H F : Hp} {L : List (Addr × HO)} {Q : VK} {i j : Int} {a b : Str} {p q : Addr} {xs ys : List V} {x y v : V} {c : Nat} {lo hi : Option Int}
theorem l_ixL (hp : SqL K H p xs) (ha : atI xs i = some v) (h : Q v H) : uIx K (.ref p) (.int i) H Q := .inl ⟨_, _, _, _, rfl, rfl, hp, ha, h⟩
theorem l_ixT (hp : SqT K H p xs) (ha : atI xs i = some v) (h : Q v H) : uIx K (.ref p) (.int i) H Q := .inr (.inl ⟨_, _, _, _, rfl, rfl, hp, ha, h⟩)
theorem l_ixS (hl : a.length ≤ sizeLine) (ha : atI a.cps.toList i = some c) (h : Q (.str ⟨#[c]⟩) H) : uIx K (.str a) (.int i) H Q := .inr (.inr ⟨_, _, _, rfl, rfl, hl, ha, h⟩)
theorem l_slL (hp : SqL K H p xs) (h : ∀ r, H r = none → Q (.ref r) (upd H r (.lst (cutV xs lo hi)))) : uSl K (.ref p) lo hi H Q := .inl ⟨_, _, rfl, hp, h⟩
theorem l_slS (hl : a.length ≤ sizeLine) (h : Q (.str (cutS a lo hi)) H) : uSl K (.str a) lo hi H Q := .inr (.inl ⟨_, rfl, hl, h⟩)
theorem l_slT (hp : SqT K H p xs) (h1 : HT.sIx xs.length 0 lo = 0 ∧ HT.sIx xs.length xs.length hi = xs.length → Q (.ref p) H)
    (h2 : ¬ (HT.sIx xs.length 0 lo = 0 ∧ HT.sIx xs.length xs.length hi = xs.length) → ∀ r, H r = none → Q (.ref r) (upd H r (.tup (cutV xs lo hi)))) : uSl K (.ref p) lo hi H Q := .inr (.inr ⟨_, _, rfl, hp, h1, h2⟩)
theorem l_lenL (hp : SqL K H p xs) (h : Q (.int xs.length) H) : uLen K [.ref p] H Q := .inl ⟨_, _, rfl, .inl ⟨_, hp, rfl⟩, h⟩
theorem l_lenT (hp : SqT K H p xs) (h : Q (.int xs.length) H) : uLen K [.ref p] H Q := .inl ⟨_, _, rfl, .inr ⟨_, hp, rfl⟩, h⟩
theorem l_lenS (hl : a.length ≤ sizeLine) (h : Q (.int a.length) H) : uLen K [.str a] H Q := .inl ⟨_, _, rfl, ⟨hl, rfl⟩, h⟩
theorem l_lenD {kvs : List (Key × V)} (hp : H p = some (.dK kvs)) (h : Q (.int kvs.length) H) : uLen K [.ref p] H Q := .inr ⟨_, _, rfl, hp, h⟩
theorem l_intI (h : Q (.int i) H) : uInt [.int i] H Q := .inl ⟨_, rfl, h⟩
theorem l_intB {k : Bool} (h : Q (.int (if k then 1 else 0)) H) : uInt [.bl k] H Q := .inr (.inl ⟨_, rfl, h⟩)
theorem l_intS (hn : PySem.intText? a = some i) (hl : a.length ≤ 640) (h : Q (.int i) H) : uInt [.str a] H Q := .inr (.inr ⟨_, _, rfl, hn, hl, h⟩)
theorem l_str (hn : i.natAbs.log2 < 1920) (h : Q (.str (toString i)) H) : uStr [.int i] H Q := ⟨_, rfl, hn, h⟩
theorem l_max (h : Q (.int (max i j)) H) : uMax [.int i, .int j] H Q := ⟨_, _, rfl, by
  have e : (if j > i then j else i) = max i j := by split <;> omega
  rw [e]; exact h⟩
theorem l_min (h : Q (.int (min i j)) H) : uMin [.int i, .int j] H Q := ⟨_, _, rfl, by
  have e : (if j < i then j else i) = min i j := by split <;> omega
  rw [e]; exact h⟩
theorem l_ord (h : Q (.int (c : Nat)) H) : uOrd [.str ⟨#[c]⟩] H Q := ⟨_, rfl, rfl, h⟩
theorem l_list (hp : SqL K H p xs ∨ SqT K H p xs) (h : ∀ r, H r = none → Q (.ref r) (upd H r (.lst xs))) : uList K [.ref p] H Q := ⟨_, _, rfl, hp, h⟩
theorem l_tupleL (hp : SqL K H p xs) (h : ∀ r, H r = none → Q (.ref r) (upd H r (.tup xs))) : uTuple K [.ref p] H Q := ⟨_, _, rfl, .inl ⟨hp, h⟩⟩
theorem l_tupleT (hp : SqT K H p xs) (h : Q (.ref p) H) : uTuple K [.ref p] H Q := ⟨_, _, rfl, .inr ⟨hp, h⟩⟩
end

/-! ### a new object, told at once into F (never written) or into L (one's own) -/
def NewF (o : HO) (H : Hp) (Q : VK) : Prop := ∀ r, H r = none → Q (.ref r) (upd H r o)
section
variable {F H : Hp} {L : List (Addr × HO)} {o : HO} {Q : VK}
theorem newF (W : Hold F L H) (h : ∀ (r : Addr) (F' H' : Hp), Same F F' → F' r = some o → Hold F' L H' → F r = none → Q (.ref r) H') : ∀ r, H r = none → Q (.ref r) (upd H r o) := fun r hr =>
  h r _ _ (same_new (W.fresh hr)) upd_same (W.alloc hr) (W.fresh hr)
theorem newL (W : Hold F L H) (h : ∀ (r : Addr) (H' : Hp), Hold F ((r, o) :: L) H' → Q (.ref r) H') : ∀ r, H r = none → Q (.ref r) (upd H r o) := fun r hr =>
  h r _ (W.make hr)
end

/-! ### a module's constant; calls of defs, methods, classes by one bundle each -/
/-- the module's name x holds v -/
def GlobV (mg : Str → Option Value) (x : Str) (v : V) : Prop := ∃ u, mg x = some u ∧ RelV v u
/-- a call's reading -/
def tF (sp : Sp) (E : XK) (t : TA) : TE := fun σ H Q => t σ H fun vs H1 => sp vs H1 Q E
def tO (C : Addr) (m : Str) (sp : Sp) (E : XK) (ta : TE) (t : TA) : TE := fun σ H Q => ta σ H fun x H1 => ∃ a dx fs, x = .ref a ∧ H1 a = some (.ins C dx fs) ∧ fs.lookup m = none ∧ t σ H1 fun vs H2 => sp (x :: vs) H2 Q E
def tN (C : Addr) (sp : Sp) (E : XK) (t : TA) : TE := fun σ H Q => t σ H fun vs H1 => ∀ x dx, H1 x = none → H1 dx = none → dx ≠ x → sp (.ref x :: vs) (upd (upd H1 dx (.own x)) x (.ins C dx [])) (fun v H2 => v = .non ∧ Q (.ref x) H2) E
/-- a def of the module -/
structure DefX (P : Program) (w : World) (K : PySem.W.Frag) (mg : Str → Option Value) (base : Heap) (CX : CXT) (x : Str) (k : Nat) (ps : List Str) (sp : Sp) : Prop where
  ex : ∃ (f : Addr) (fd : FuncData), FnOk P w K mg base CX k f fd ps sp ∧ mg x = some (.ref f) ∧ PySem.W.keepIn K (.ref f) = true ∧ Binds K fd ps []
/-- a method of the class at C -/
structure MethX (P : Program) (w : World) (K : PySem.W.Frag) (mg : Str → Option Value) (base : Heap) (CX : CXT) (C : Addr) (m : Str) (k : Nat) (ps : List Str) (sp : Sp) : Prop where
  ex : ∃ (f : Addr) (fd : FuncData), FnOk P w K mg base CX k f fd ps sp ∧ Cls K C ∧ Meth K C m f ∧ Binds K fd ps []
/-- the class named x, at C, by its __init__ -/
structure InitX (P : Program) (w : World) (K : PySem.W.Frag) (mg : Str → Option Value) (base : Heap) (CX : CXT) (x : Str) (C : Addr) (k : Nat) (ps : List Str) (sp : Sp) : Prop where
  ex : ∃ (f : Addr) (fd : FuncData), FnOk P w K mg base CX k f fd ps sp ∧ Mk K C f ∧ mg x = some (.ref C) ∧ Binds K fd ps []
section
variable {X : Cx} {CX : CXT} {x m : Str} {k k' : Nat} {ps : List Str} {sp : Sp} {E : XK} {C : Addr} {v : V} {p pos apos : Pos} {e o : Expr} {es : List Expr} {t : TA} {to : TE}
theorem pe_gv (g : GlobV X.mg x v) (hg : Gl X x := by rfl) (hdb : (x == ("__debug__" : Str)) = false := by decide) : PE X (.Name x pos) (tC v) := by
  obtain ⟨u, h, r⟩ := g
  exact pe_glob hg h r hdb
theorem pe_f (D : DefX X.prog X.w X.K X.mg X.base CX x k ps sp) (hr : Room k' X.A) (hk : k ≤ k') (hx : Passes CX X E) (ha : PA X (e :: es) t) (hg : Gl X x := by rfl) (hdb : (x == ("__debug__" : Str)) = false := by decide)
    (he : starEach (e :: es) X.env = (false, eval e X.env) :: starEach es X.env := by rfl) (hpl : (backTo pos (starEach es X.env)).any (·.1) = false := by rfl) : PE X (.Call (.Name x p) (e :: es) [] pos) (tF sp E t) := by
  obtain ⟨f, fd, F, h1, h2, b⟩ := D.ex
  have z := pe_call (p := p) (pos := pos) F (hr.mono hk) hg h1 h2 b .nil hx ha hdb he hpl
  have ez : tCall sp [] E t = tF sp E t := by
    funext σ H Q
    unfold tCall tF
    simp only [List.append_nil]
  rw [← ez]; exact z
theorem pe_f0 (D : DefX X.prog X.w X.K X.mg X.base CX x k ps sp) (hr : Room k' X.A) (hk : k ≤ k') (hx : Passes CX X E) (hg : Gl X x := by rfl) (hdb : (x == ("__debug__" : Str)) = false := by decide) : PE X (.Call (.Name x p) [] [] pos) (tF sp E tNil) := by
  obtain ⟨f, fd, F, h1, h2, b⟩ := D.ex
  have z := pe_call0 (p := p) (pos := pos) F (hr.mono hk) hg h1 h2 b .nil hx hdb
  have ez : tCall sp [] E tNil = tF sp E tNil := by
    funext σ H Q
    unfold tCall tF
    simp only [List.append_nil]
  rw [← ez]; exact z
theorem pe_o {pl : Sem Bool} (D : MethX X.prog X.w X.K X.mg X.base CX C m k ps sp) (hr : Room k' X.A) (hk : k ≤ k') (hx : Passes CX X E) (ho : PE X o to) (ha : PA X (e :: es) t)
    (hst : starEach (e :: es) X.env = (false, eval e X.env) :: starEach es X.env := by rfl) (hpl : (backTo pos (starEach es X.env)).any (·.1) = false := by rfl)
    (ht : eval (.Call (.Attribute o m apos) (e :: es) [] pos) X.env = (do
      let ov ← eval o X.env
      standAt apos.atName
      let (f, first) ← holding [ov] (getMethod ov m pl)
      callWith pos f first (backTo pos (starEach (e :: es) X.env)) (backToKw pos (keywordEach [] X.env))) := by rfl) : PE X (.Call (.Attribute o m apos) (e :: es) [] pos) (tO C m sp E to t) := by
  obtain ⟨f, fd, F, c, hm, b⟩ := D.ex
  have z := pe_meth (apos := apos) (pos := pos) (e := e) (es := es) ho c hm F (hr.mono hk) b .nil hx ha hst hpl ht
  have ez : tMeth C m sp [] E to t = tO C m sp E to t := by
    funext σ H Q
    unfold tMeth tO
    simp only [List.append_nil]
  rw [← ez]
  exact z
theorem pe_o0 {pl : Sem Bool} (D : MethX X.prog X.w X.K X.mg X.base CX C m k ps sp) (hr : Room k' X.A) (hk : k ≤ k') (hx : Passes CX X E) (ho : PE X o to)
    (ht : eval (.Call (.Attribute o m apos) [] [] pos) X.env = (do
      let ov ← eval o X.env
      standAt apos.atName
      let (f, first) ← holding [ov] (getMethod ov m pl)
      callWith pos f first (backTo pos (starEach [] X.env)) (backToKw pos (keywordEach [] X.env))) := by rfl) : PE X (.Call (.Attribute o m apos) [] [] pos) (tO C m sp E to tNil) := by
  obtain ⟨f, fd, F, c, hm, b⟩ := D.ex
  have z := pe_meth0 (apos := apos) (pos := pos) ho c hm F (hr.mono hk) b .nil hx ht
  have ez : tMeth C m sp [] E to tNil = tO C m sp E to tNil := by
    funext σ H Q
    unfold tMeth tO
    simp only [List.append_nil]
  rw [← ez]
  exact z
theorem pe_n (D : InitX X.prog X.w X.K X.mg X.base CX x C k ps sp) (hr : Room k' X.A) (hk : k + 1 ≤ k') (hx : Passes CX X E) (ha : PA X (e :: es) t) (hg : Gl X x := by rfl) (hdb : (x == ("__debug__" : Str)) = false := by decide)
    (he : starEach (e :: es) X.env = (false, eval e X.env) :: starEach es X.env := by rfl) (hpl : (backTo pos (starEach es X.env)).any (·.1) = false := by rfl) : PE X (.Call (.Name x p) (e :: es) [] pos) (tN C sp E t) := by
  obtain ⟨f, fd, F, M, h1, b⟩ := D.ex
  have z := pe_make (p := p) (pos := pos) M F (hr.mono hk) hg h1 b .nil hx ha hdb he hpl
  have ez : tMake C sp [] E t = tN C sp E t := by
    funext σ H Q
    unfold tMake tN
    simp only [List.append_nil]
  rw [← ez]; exact z
theorem pe_n0 (D : InitX X.prog X.w X.K X.mg X.base CX x C k ps sp) (hr : Room k' X.A) (hk : k + 1 ≤ k') (hx : Passes CX X E) (hg : Gl X x := by rfl) (hdb : (x == ("__debug__" : Str)) = false := by decide) : PE X (.Call (.Name x p) [] [] pos) (tN C sp E tNil) := by
  obtain ⟨f, fd, F, M, h1, b⟩ := D.ex
  have z := pe_make0 (p := p) (pos := pos) M F (hr.mono hk) hg h1 b .nil hx hdb
  have ez : tMake C sp [] E tNil = tN C sp E tNil := by
    funext σ H Q
    unfold tMake tN
    simp only [List.append_nil]
  rw [← ez]; exact z
end
end Ss
/-! ## Part 4: texts' methods, isinstance, raise; what is asked of a reading -/
namespace Ss
open PySem PySem.Spec PyProof.Rows L2

def u_split : V → List V → Hp → VK → Prop := fun x xs H Q => ∃ a b, x = .str a ∧ xs = [.str b] ∧ (b.length == 0) = false ∧ a.length + 2 ≤ sizeLine ∧ rNewStrs (Txt.split a b) H Q
def u_count : V → List V → Hp → VK → Prop := fun x xs H Q => ∃ a b, x = .str a ∧ xs = [.str b] ∧ Q (.int (Txt.count a b)) H
def u_find : V → List V → Hp → VK → Prop := fun x xs H Q => ∃ a b, x = .str a ∧ xs = [.str b] ∧ Q (.int (Txt.find a b)) H
def u_join (K : PySem.W.Frag) : V → List V → Hp → VK → Prop := fun x xs H Q => ∃ a p, ∃ ys : List Str, x = .str a ∧ xs = [.ref p] ∧ (SqL K H p (ys.map V.str) ∨ SqT K H p (ys.map V.str)) ∧ (ys.map (·.length)).sum + ys.length * a.length ≤ 16777216 ∧ Q (.str (Txt.join a ys)) H
def u_rstrip : V → List V → Hp → VK → Prop := fun x xs H Q => ∃ a b, x = .str a ∧ xs = [.str b] ∧ a.length ≤ sizeLine ∧ Q (.str (Txt.rstripChars a b)) H
def tIsTy (K : PySem.W.Frag) (ta : TE) (T : String) : TE := fun σ H Q => ta σ H fun x H1 => rIsi K [x, .ty T] H1 Q
theorem l_isTy {K : PySem.W.Frag} {x : V} {H : Hp} {Q : VK} {t T : String} {b : Bool} (ty : TyX K H x (.type t)) (h : kitB t T = some b) (q : Q (.bl b) H) : rIsi K [x, .ty T] H Q := ⟨x, .ty T, .type t, .type T, b, rfl, .ty T, ty, kit_ty h, q⟩
section
variable {X : Cx} {o e a : Expr} {to te ta : TE} {apos pos : Pos}
theorem pe_usplit (ho : PE X o to) (he : PE X e te) (hs : starEach [e] X.env = [(false, eval e X.env)] := by rfl) (hbase : attributeBase o "split" X.env (eval o X.env) = eval o X.env := by rfl) (hline : (apos.endLine == pos.line) = true := by rfl) :
    PE X (.Call (.Attribute o "split" apos) [e] [] pos) (tM1 u_split to te) := pe_split ho he hs hbase hline
theorem pe_ucount (ho : PE X o to) (he : PE X e te) (hs : starEach [e] X.env = [(false, eval e X.env)] := by rfl) (hbase : attributeBase o "count" X.env (eval o X.env) = eval o X.env := by rfl) (hline : (apos.endLine == pos.line) = true := by rfl) :
    PE X (.Call (.Attribute o "count" apos) [e] [] pos) (tM1 u_count to te) := pe_m1 F.slot_str_count F.type_str_count mt_count ho he hs hbase hline
theorem pe_ufind (ho : PE X o to) (he : PE X e te) (hs : starEach [e] X.env = [(false, eval e X.env)] := by rfl) (hbase : attributeBase o "find" X.env (eval o X.env) = eval o X.env := by rfl) (hline : (apos.endLine == pos.line) = true := by rfl) :
    PE X (.Call (.Attribute o "find" apos) [e] [] pos) (tM1 u_find to te) := pe_m1 F.slot_str_find F.type_str_find mt_find ho he hs hbase hline
theorem pe_ujoin (ho : PE X o to) (he : PE X e te) (hs : starEach [e] X.env = [(false, eval e X.env)] := by rfl) (hbase : attributeBase o "join" X.env (eval o X.env) = eval o X.env := by rfl) (hline : (apos.endLine == pos.line) = true := by rfl) :
    PE X (.Call (.Attribute o "join" apos) [e] [] pos) (tM1 (u_join X.K) to te) := pe_join ho he hs hbase hline
theorem pe_sc {x y : Str} {j : Nat} (h : x = y) : PE X (.Constant (.str x) j pos) (tC (.str y)) := by subst h; exact pe_str
theorem pe_isTy {T : String} {p tp : Pos} (ha : PE X a ta) (hg : Gl X "isinstance") (hm : X.mg "isinstance" = none) {xT : Str} (gT : Gl X xT) (mT : X.mg xT = none) (vT : bootBuiltins xT = some (.type T))
    (he : starEach [a, .Name xT tp] X.env = (false, eval a X.env) :: starEach [.Name xT tp] X.env := by rfl) (hpl : (backTo pos (starEach [.Name xT tp] X.env)).any (·.1) = false := by rfl)
    (hn : xT ≠ "__name__" := by decide) (hdb : (xT == ("__debug__" : Str)) = false := by decide) : PE X (.Call (.Name "isinstance" p) [a, .Name xT tp] [] pos) (tIsTy X.K ta T) := by
  have z : PE X (.Name xT tp) (tC (.ty T)) := pe_bltn (u := .type T) gT mT vT rfl hn hdb
  exact pe_callB (p := p) (pos := pos) (call_isi (X := X)) hg hm (by decide +kernel) (pa_cons ha (pa_cons z pa_nil) he) (by decide) (by decide) he hpl
theorem pe_replIx {y z y' z' : Str} {j k k0 : Nat} {i : Int} {c0 c1 p1 p2 : Pos} (ha : PE X a ta) (hy : y = y') (hz : z = z') (hyz : (y == z) = false)
    (hst : starEach [.Constant (.str y) j c0, .Constant (.str z) k c1] X.env = [(false, eval (.Constant (.str y) j c0) X.env), (false, eval (.Constant (.str z) k c1) X.env)] := by rfl)
    (hbase : attributeBase (.Subscript a (.Constant (.int i) k0 p1) p2) "replace" X.env (eval (.Subscript a (.Constant (.int i) k0 p1) p2) X.env) = eval (.Subscript a (.Constant (.int i) k0 p1) p2) X.env := by rfl) (hline : (apos.endLine == pos.line) = true := by rfl) :
    PE X (.Call (.Attribute (.Subscript a (.Constant (.int i) k0 p1) p2) "replace" apos) [.Constant (.str y) j c0, .Constant (.str z) k c1] [] pos) (CwR.tReplC (tOp (uIx X.K) ta (tC (.int i))) y' z') := by
  subst hy; subst hz
  refine ⟨fun pins s σ H Q I h => ?_⟩
  have hr : wpAny (model X.prog X.w) X.A (eval (.Subscript a (.Constant (.int i) k0 p1) p2) X.env) (fun v s1 => 1 ≤ s1.toks ∧ EP X pins σ (fun v H1 => ∃ x, v = .str x ∧ x.length + (x.length + 1) * z.length ≤ 16777216 ∧ Q (.str (Txt.replace x y z)) H1) v s1) X.xe s := by
    refine Subscript_ (thn (ha.run pins s σ H _ I h) fun v s1 ⟨x, H1, I1, r1, q1⟩ => ?_)
    refine wpAny_Constant_int ?_
    have w := iIx (X := X) a (.Constant (.int i) k0 p1) pins { s1 with toks := s1.toks + 1 } σ H1 x (.int i) v (.int i s1.toks) _ (I1.tok _) r1 ⟨_, rfl⟩ q1 rfl
    refine wpAny_mono (wpAny_toks_of (n := s1.toks + 1) (Nat.le_refl _) w) (fun v s2 q => ⟨by have := q.1; omega, q.2⟩) fun e s2 q => q.2
  refine PySem.Call_method2 hbase hst hline (wpAny_mono hr (fun v s1 q => ?_) fun _ _ z => z)
  obtain ⟨hk, v', H1, I1, r1, x, e1, hb, q⟩ := q
  subst e1
  obtain ⟨tx, e2⟩ := r1
  subst e2
  refine ⟨"str", _, PySem.F.plainAttrs_str, PySem.F.slot_str_replace, PySem.F.type_str_replace, typeIs_str _ _ _, (fun _ e => nomatch e), Calls.callWith_builtin rfl (Calls.evalArgs_plain (Calls.spliced_cons ?_))⟩
  refine Calls.Constant_str (Calls.spliced_cons (Calls.Constant_str (Calls.spliced_nil ?_)))
  exact PySem.SC.replace (by show s1.toks ≠ 0; omega) (by show s1.toks + 1 ≠ 0; omega) (by show s1.toks ≠ s1.toks + 1; omega) hyz hb fun t' k => ⟨.str (Txt.replace x y z), H1, I1.tok k, ⟨t', rfl⟩, q⟩
end

/-! ### raise X('..') -/
/-- what the top has made of an own error class without __init__ -/
structure ErrX (K : PySem.W.Frag) (mg : Str → Option Value) (x : Str) (C : Addr) : Prop where
  ex : PySem.W.excIn K C [.type "ValueError", .type "Exception", .type "BaseException", .type "object"] "ValueError.__new__" = true
  g : mg x = some (.ref C)
  kp : PySem.W.keepIn K (.ref C) = true
  sub : PySem.W.subIn K (.ref C) (.type "BaseException") = some true
  ty : PySem.W.typeIn K (.ref C) = some (.type "type")
def tRz (C : Addr) (E : XK) : TS := fun _ _ H => E (.ref C) none H
theorem ps_rz {X : Cx} {x : Str} {m : Str} {j : Nat} {p p2 pos pos' : Pos} {C : Addr} {E : XK} (e : ErrX X.K X.mg x C) (tk : Takes X (fun cls d _ H => E cls d H)) (hc : X.calm = true := by rfl) (hg : Gl X x := by rfl) (hdb : (x == ("__debug__" : Str)) = false := by decide) :
    PS X (.Raise (some (.Call (.Name x p) [.Constant (.str m) j p2] [] pos)) none pos') (tRz C E) := L2.ps_raise hc tk (L2.pmk_own PySem.F.excBase_ValueError e.ex e.g e.kp (raises_own e.sub e.ty) hg hdb)
theorem passE {P : Program} {w : World} {K : PySem.W.Frag} {mg : Str → Option Value} {base : Heap} {N : List Str} {qual : Str} {scope : Scope} {f : Addr} {cd : Value} {A : Around} {outer : List Env} {s : Shared} {H : Hp} {E : XK} :
    Passes (L2.CX P w) (cxOf (L2.CX P w) P w K mg base N qual scope f cd A outer s H E) E := passes_call (takes_of rfl rfl rfl rfl) (fun _ _ _ _ h => h)

/-- what is asked of a reading t of a def with the names N: it keeps the promise sp -/
def RD (N : List Str) (t : XK → TS) (sp : Sp) : Prop := ∀ vs H Q E, sp vs H Q E → t E { nx := fun _ H' => Q .non H', rt := Q } (start N vs) H
/-- where the classes stand -/
structure Ctx where
  K : PySem.W.Frag
  cScreenError : Addr
  cBadText : Addr
  cBadSize : Addr
  cBadPlace : Addr
  cBadPage : Addr
  cBadPane : Addr
  cBadTick : Addr
  cNothing : Addr
  cReader : Addr
  cRow : Addr
  cScreen : Addr
  cLine : Addr
  cPanes : Addr
  cTape : Addr
  aPLAIN : Addr
  aBLANK : Addr
  aUPRIGHT : Addr
  aLEVEL : Addr
  tabs : List (Addr × Str) := []
end Ss
/-! ## Part 5: a reading, step by step: one lemma a construct -/
namespace Ss
open PySem PySem.Spec PyProof.Rows L2
def aTup (xs : List V) (H : Hp) (Q : VK) : Prop := xs.length ≤ sizeLine ∧ ∀ p, H p = none → Q (.ref p) (upd H p (.tup xs))
def aLst (xs : List V) (H : Hp) (Q : VK) : Prop := xs.length ≤ sizeLine ∧ ∀ p, H p = none → Q (.ref p) (upd H p (.lst xs))
def aFld (K : PySem.W.Frag) (x : V) (f : Str) (H : Hp) (Q : VK) : Prop := ∃ a C dx fs v, x = .ref a ∧ H a = some (.ins C dx fs) ∧ Cls K C ∧ NoAttr K C f ∧ fs.lookup f = some v ∧ Q v H
def aPut (K : PySem.W.Frag) (x y : V) (f : Str) (H : Hp) (Q : Hp → Prop) : Prop := ∃ a C dx fs, x = .ref a ∧ H a = some (.ins C dx fs) ∧ Cls K C ∧ NoAttr K C f ∧ fs.length < 1000 ∧ Q (upd H a (.ins C dx (putF f y fs)))
def aO (C : Addr) (m : Str) (x : V) (H : Hp) (P : Prop) : Prop := ∃ a dx fs, x = .ref a ∧ H a = some (.ins C dx fs) ∧ fs.lookup m = none ∧ P
def aN (C : Addr) (sp : Sp) (E : XK) (vs : List V) (H : Hp) (Q : VK) : Prop := ∀ x dx, H x = none → H dx = none → dx ≠ x → sp (.ref x :: vs) (upd (upd H dx (.own x)) x (.ins C dx [])) (fun v H2 => v = .non ∧ Q (.ref x) H2) E
theorem sz {n : Nat} (h : Nat.ble n 1000 = true) : n ≤ sizeLine := Nat.le_trans (Nat.le_of_ble_eq_true h) (by decide)
theorem szl {n : Nat} (h : n ≤ 100000) : n ≤ sizeLine := Nat.le_trans h (by decide)
theorem szlt {n : Nat} (h : n < 100000) : n < sizeLine := Nat.lt_of_lt_of_le h (by decide)
section
variable {K : PySem.W.Frag} {σ : L2.St} {H F : Hp} {L : List (Addr × HO)} {Q : VK} {QB : Bool → Hp → Prop} {QA : List V → Hp → Prop} {QO : Option Int → Hp → Prop} {nx bk ct : L2.St → Hp → Prop} {rt : VK} {t u : TS} {te ta tb tv to tcE : TE} {tc tA tB' : TT} {g : TG} {tr : TA} {r r' : R2} {v w x y : V} {i j l : Nat} {b : Bool} {P : Prop}
-- statements
theorem x_seq (h : t ⟨u ⟨nx, rt, bk, ct⟩, rt, bk, ct⟩ σ H) : tSeq t u ⟨nx, rt, bk, ct⟩ σ H := h
theorem x_next (h : nx σ H) : tNext ⟨nx, rt, bk, ct⟩ σ H := h
theorem x_asg (h : te σ H fun x H1 => g x σ H1 nx) : tAsg te g ⟨nx, rt, bk, ct⟩ σ H := h
theorem x_drop (h : te σ H fun _ H1 => nx σ H1) : tDrop te ⟨nx, rt, bk, ct⟩ σ H := h
theorem x_ret (h : te σ H rt) : tRet te ⟨nx, rt, bk, ct⟩ σ H := h
theorem x_retN (h : rt .non H) : tRetN ⟨nx, rt, bk, ct⟩ σ H := h
theorem x_brk (h : bk σ H) : tBreak ⟨nx, rt, bk, ct⟩ σ H := h
theorem x_cont (h : ct σ H) : tCont ⟨nx, rt, bk, ct⟩ σ H := h
theorem x_ifs (h : tc σ H fun b H1 => if b = true then t ⟨nx, rt, bk, ct⟩ σ H1 else u ⟨nx, rt, bk, ct⟩ σ H1) : tIfS tc t u ⟨nx, rt, bk, ct⟩ σ H := h
theorem x_par (h : tr σ H fun vs H1 => ∃ v w, vs = [v, w] ∧ nx ((σ.set i (some v)).set j (some w)) H1) : tPar i j tr ⟨nx, rt, bk, ct⟩ σ H := h
theorem x_par' (h : P) : ∃ v' w', [v, w] = [v', w'] ∧ P := ⟨v, w, rfl, h⟩
theorem x_sfld {f : Str} (h : tv σ H fun y H1 => ta σ H1 fun x H2 => aPut K x y f H2 (nx σ)) : sFld K ta tv f ⟨nx, rt, bk, ct⟩ σ H := h
theorem x_put {a C dx : Addr} {f : Str} {fs fs' : List (Str × V)} {QH : Hp → Prop} (h : H a = some (.ins C dx fs)) (c : Cls K C) (n : NoAttr K C f) (hl : fs.length < 1000) (hp : putF f y fs = fs') (q : QH (upd H a (.ins C dx fs'))) : aPut K (.ref a) y f H QH :=
  ⟨a, C, dx, fs, rfl, h, c, n, hl, by rw [hp]; exact q⟩
theorem x_rz {C : Addr} {E : XK} (h : E (.ref C) none H) : tRz C E ⟨nx, rt, bk, ct⟩ σ H := h
-- targets
theorem x_name (h : nx (σ.set i (some v)) H) : gName i v σ H nx := h
theorem x_gtup {a : Addr} {xs : List V} {n : Nat} {ts : TGs} (h : SqT K H a xs) (e : xs.length = n) (q : ts xs σ H nx) : gTup K n ts (.ref a) σ H nx := ⟨a, xs, rfl, h, e, q⟩
theorem x_gcons {ts : TGs} {vs : List V} (h : g v σ H fun σ' H' => ts vs σ' H' nx) : gCons g ts (v :: vs) σ H nx := ⟨v, vs, rfl, h⟩
theorem x_gnil (h : nx σ H) : gNil [] σ H nx := ⟨rfl, h⟩
-- expressions
theorem x_var (h : σ[i]? = some (some v)) (q : Q v H) : tVar i σ H Q := ⟨v, h, q⟩
theorem x_c (h : Q v H) : tC v σ H Q := h
theorem x_op (h : ta σ H fun x H1 => tb σ H1 fun y H2 => r x y H2 Q) : tOp r ta tb σ H Q := h
theorem x_un {r : V → Hp → VK → Prop} (h : ta σ H fun x H1 => r x H1 Q) : tUn r ta σ H Q := h
theorem x_neg {n : Int} (h : Q (.int (-n)) H) : rU (fun i => .int (-i)) (.int n) H Q := ⟨_, rfl, h⟩
theorem x_nil (h : QA [] H) : tNil σ H QA := h
theorem x_cons (h : ta σ H fun x H1 => tr σ H1 fun xs H2 => QA (x :: xs) H2) : tCons ta tr σ H QA := h
theorem x_tup (h : tr σ H fun xs H1 => aTup xs H1 Q) : tTup tr σ H Q := h
theorem x_lst (h : tr σ H fun xs H1 => aLst xs H1 Q) : tLst tr σ H Q := h
theorem x_cb {r : List V → Hp → VK → Prop} (h : tr σ H fun vs H1 => r vs H1 Q) : tCB r tr σ H Q := h
theorem x_bm {T : String} {r : V → List V → Hp → VK → Prop} (h : to σ H fun x H1 => tyV K T x H1 ∧ tr σ H1 fun xs H2 => r x xs H2 Q) : tBM K T r to tr σ H Q := h
theorem x_bm0 {T : String} {r : V → List V → Hp → VK → Prop} (h : to σ H fun x H1 => tyV K T x H1 ∧ r x [] H1 Q) : tBM0 K T r to σ H Q := h
theorem x_m1 {r : V → List V → Hp → VK → Prop} (h : to σ H fun x H1 => (∃ a, x = .str a) ∧ te σ H1 fun y H2 => r x [y] H2 Q) : tM1 r to te σ H Q := h
theorem x_m0 {r : V → List V → Hp → VK → Prop} (h : to σ H fun x H1 => (∃ a, x = .str a) ∧ r x [] H1 Q) : tM0 r to σ H Q := h
theorem x_isstr {z : Str} (h : P) : (∃ a, V.str z = .str a) ∧ P := ⟨⟨_, rfl⟩, h⟩
theorem x_tystr {z : Str} (h : P) : tyV K "str" (.str z) H ∧ P := ⟨rfl, h⟩
theorem x_tylst {a : Addr} {xs : List V} (hs : SqL K H a xs) (h : P) : tyV K "list" (.ref a) H ∧ P := ⟨.inl ⟨rfl, _, hs⟩, h⟩
theorem x_sl {r : V → Option Int → Option Int → Hp → VK → Prop} {tl th : TO} (h : te σ H fun x H1 => tl σ H1 fun l H2 => th σ H2 fun u H3 => r x l u H3 Q) : tSl r te tl th σ H Q := h
theorem x_part (h : te σ H fun x H1 => ∃ i, x = .int i ∧ QO (some i) H1) : tPart te σ H QO := h
theorem x_part' {n : Int} {Pi : Int → Prop} (h : Pi n) : ∃ i, V.int n = .int i ∧ Pi i := ⟨_, rfl, h⟩
theorem x_nopart (h : QO none H) : tNoPart σ H QO := h
theorem x_fld {f : Str} (h : ta σ H fun x H1 => aFld K x f H1 Q) : tFld K ta f σ H Q := h
theorem x_get {a C dx : Addr} {f : Str} {fs : List (Str × V)} (h : H a = some (.ins C dx fs)) (c : Cls K C) (n : NoAttr K C f) (hl : fs.lookup f = some v) (q : Q v H) : aFld K (.ref a) f H Q := ⟨a, C, dx, fs, v, rfl, h, c, n, hl, q⟩
theorem x_f {sp : Sp} {E : XK} (h : tr σ H fun vs H1 => sp vs H1 Q E) : tF sp E tr σ H Q := h
theorem x_o {C : Addr} {m : Str} {sp : Sp} {E : XK} (h : ta σ H fun x H1 => aO C m x H1 (tr σ H1 fun vs H2 => sp (x :: vs) H2 Q E)) : tO C m sp E ta tr σ H Q := h
theorem x_ao {a C dx : Addr} {m : Str} {fs : List (Str × V)} (h : H a = some (.ins C dx fs)) (hl : fs.lookup m = none) (q : P) : aO C m (.ref a) H P := ⟨a, dx, fs, rfl, h, hl, q⟩
theorem x_n {C : Addr} {sp : Sp} {E : XK} (h : tr σ H fun vs H1 => aN C sp E vs H1 Q) : tN C sp E tr σ H Q := h
theorem x_an {C : Addr} {sp : Sp} {E : XK} {vs : List V} (W : Hold F L H) (h : ∀ (x dx : Addr) (H1 : Hp), Hold F ((x, .ins C dx []) :: L) H1 → sp (.ref x :: vs) H1 (fun v H2 => v = .non ∧ Q (.ref x) H2) E) : aN C sp E vs H Q := fun x dx n1 n2 ne => h x dx _ (W.inst n1 n2 ne)
theorem x_if (h : tc σ H fun c H1 => if c = true then ta σ H1 Q else tb σ H1 Q) : tIf tc ta tb σ H Q := h
theorem x_isty {T : String} (h : ta σ H fun x H1 => rIsi K [x, .ty T] H1 Q) : tIsTy K ta T σ H Q := h
theorem x_chain (h : ta σ H fun x H1 => tb σ H1 fun y H2 => r x y H2 fun z H3 => ∃ k, z = .bl k ∧ if k = true then tcE σ H3 fun w' H4 => r' y w' H4 Q else Q (.bl false) H3) : tChain r r' ta tb tcE σ H Q := h
theorem x_andV (h : ta σ H fun x H1 => ∃ c, x = .bl c ∧ if c = true then tb σ H1 Q else Q (.bl false) H1) : tAndV ta tb σ H Q := h
theorem x_orV (h : ta σ H fun x H1 => ∃ c, x = .bl c ∧ if c = true then Q (.bl true) H1 else tb σ H1 Q) : tOrV ta tb σ H Q := h
theorem x_notV (h : ta σ H fun x H1 => ∃ c, x = .bl c ∧ Q (.bl (!c)) H1) : tNotV ta σ H Q := h
-- tests
theorem x_test (h : te σ H fun x H' => ∃ k, x = .bl k ∧ QB k H') : tTest te σ H QB := h
theorem x_B (h : te σ H fun x H1 => ∃ c, x = .bl c ∧ QB c H1) : tB te σ H QB := h
theorem x_bl {Qb : Bool → Prop} (h : Qb b) : ∃ k, V.bl b = .bl k ∧ Qb k := ⟨b, rfl, h⟩
theorem x_and (h : tA σ H fun c H1 => if c = true then tB' σ H1 QB else QB false H1) : tAnd tA tB' σ H QB := h
theorem x_or (h : tA σ H fun c H1 => if c = true then QB true H1 else tB' σ H1 QB) : tOr tA tB' σ H QB := h
theorem x_not (h : tA σ H fun c H1 => QB (!c) H1) : tNot tA σ H QB := h
theorem x_tru (h : ta σ H fun x H' => ∃ k, TruV K x H' k ∧ QB k H') : tTru K ta σ H QB := h
theorem x_yes (h : QB true H) : tYes σ H QB := h
-- new objects
theorem n_tupF {xs : List V} (W : Hold F L H) (hl : xs.length ≤ sizeLine) (k : ∀ (p : Addr) (F' H' : Hp), Same F F' → F' p = some (.tup xs) → Hold F' L H' → Q (.ref p) H') : aTup xs H Q :=
  ⟨hl, newF W fun p F' H' s h W' _ => k p F' H' s h W'⟩
theorem n_lstF {xs : List V} (W : Hold F L H) (hl : xs.length ≤ sizeLine) (k : ∀ (p : Addr) (F' H' : Hp), Same F F' → F' p = some (.lst xs) → Hold F' L H' → Q (.ref p) H') : aLst xs H Q :=
  ⟨hl, newF W fun p F' H' s h W' _ => k p F' H' s h W'⟩
theorem n_lstL {xs : List V} (W : Hold F L H) (hl : xs.length ≤ sizeLine) (k : ∀ (p : Addr) (H' : Hp), Hold F ((p, .lst xs) :: L) H' → Q (.ref p) H') : aLst xs H Q := ⟨hl, newL W k⟩
-- ways
theorem w2 {A B : Prop} (h1 : b = true → A) (h2 : b = false → B) : if b = true then A else B := by
  cases b with
  | true => rw [if_pos rfl]; exact h1 rfl
  | false => rw [if_neg Bool.false_ne_true]; exact h2 rfl
theorem wT {A B : Prop} (hb : b = true) (h : A) : if b = true then A else B := by rw [if_pos hb]; exact h
theorem wF {A B : Prop} (hb : b = false) (h : B) : if b = true then A else B := by rw [hb, if_neg Bool.false_ne_true]; exact h
theorem wD {A B : Prop} {c : Prop} [Decidable c] (h1 : c → A) (h2 : ¬ c → B) : if decide c = true then A else B := by
  by_cases h : c
  · rw [if_pos (decide_eq_true h)]; exact h1 h
  · rw [if_neg (by simpa using h)]; exact h2 h
theorem wN {A B : Prop} {c : Prop} [Decidable c] (h1 : ¬ c → A) (h2 : c → B) : if (!decide c) = true then A else B := by
  by_cases h : c
  · rw [decide_eq_true h, if_neg (by decide)]; exact h2 h
  · rw [decide_eq_false h, if_pos (by decide)]; exact h1 h
end
end Ss
/-! ## Part 6: texts by their codes; a class's fields -/
namespace Ss
open PySem PySem.Spec PyProof.Rows L2
/-- the text of these codes -/
abbrev T (l : List Nat) : Str := ⟨l.toArray⟩
theorem T_inj {l m : List Nat} : T l = T m ↔ l = m := ⟨fun h => by injection h with h; simpa using congrArg Array.toList h, fun h => by rw [h]⟩
theorem T_eq (l m : List Nat) : decide (V.str (T l) = V.str (T m)) = decide (l = m) := by
  by_cases h : l = m
  · subst h; simp
  · have : ¬ V.str (T l) = V.str (T m) := fun e => h (T_inj.mp (V.str.inj e))
    rw [decide_eq_false h, decide_eq_false this]
theorem T_len (l : List Nat) : (T l).length = l.length := by simp [Str.length]
theorem T_list (l : List Nat) : (T l).cps.toList = l := by simp
theorem T_app (l m : List Nat) : T l ++ T m = T (l ++ m) := by
  show Str.mk _ = Str.mk _
  congr 1
  simp
theorem Str_T (s : Str) : s = T s.cps.toList := by cases s; simp
end Ss
/-! ## Part 7: loops and comprehensions -/
namespace Ss
open PySem PySem.Spec PyProof.Rows L2
/-- what an iterator walks, wherever F stands: n items, and it changes nothing -/
structure ItOk (J : It) (F : Hp) (n : Nat) (item : Nat → V) : Prop where
  go : ∀ i H, Gr F H → i < n → J.go i H
  stop : ∀ H, Gr F H → J.stop n H
  yld : ∀ i H x H', Gr F H → i < n → J.yld i H x H' → H' = H ∧ x = item i
section
variable {K : PySem.W.Frag} {F : Hp} {a : Addr} {xs : List V} {n : Nat} {lo : Int} {item : Nat → V} {J : It}
theorem ItOk.mono {F' : Hp} (o : ItOk J F n item) (g : Gr F F') : ItOk J F' n item := ⟨fun i H h => o.go i H (g.trans h), fun H h => o.stop H (g.trans h), fun i H x H' h => o.yld i H x H' (g.trans h)⟩
theorem ItOk.list (h : SqL K F a xs) : ItOk (Itl K a) F xs.length (fun i => xs.getD i .non) where
  go := fun i H g hi => ⟨xs, xs[i], g.sqL h, by simp [hi]⟩
  stop := fun H g => ⟨xs, g.sqL h, Nat.le_refl _⟩
  yld := fun i H x H' g hi y => by
    obtain ⟨e, y⟩ := y
    refine ⟨e, ?_⟩
    have z := y xs (g.sqL h)
    rw [List.getD_eq_getElem?_getD, z]; rfl
theorem ItOk.tup (h : SqT K F a xs) : ItOk (Itt K a) F xs.length (fun i => xs.getD i .non) where
  go := fun i H g hi => ⟨xs, xs[i], g.sqT h, by simp [hi]⟩
  stop := fun H g => ⟨xs, g.sqT h, Nat.le_refl _⟩
  yld := fun i H x H' g hi y => by
    obtain ⟨e, y⟩ := y
    refine ⟨e, ?_⟩
    have z := y xs (g.sqT h)
    rw [List.getD_eq_getElem?_getD, z]; rfl
theorem ItOk.rng : ItOk (Itr lo n) F n (fun i => .int (lo + i)) := ⟨fun _ _ _ h => h, fun _ _ => Nat.le_refl _, fun _ _ _ _ _ _ y => y⟩
theorem ItOk.str (l : List Nat) : ItOk (Its (T l)) F l.length (fun i => .str (T [l.getD i 0])) where
  go := fun i H _ h => by show i < l.toArray.size; rw [List.size_toArray]; exact h
  stop := fun H _ => by show l.toArray.size ≤ l.length; rw [List.size_toArray]; exact Nat.le_refl _
  yld := fun i H x H' _ hi y => by
    obtain ⟨e, c, hc, rfl⟩ := y
    refine ⟨e, ?_⟩
    have z : l[i]? = some c := by simpa using hc
    rw [List.getD_eq_getElem?_getD, z]; rfl
end
/-- the loop behind what it walks -/
def aFor (J : It) (g : TG) (tb : TS) (D : Ends) (σ : L2.St) (H1 : Hp) : Prop := ∃ W : Nat → Nat → L2.St → Hp → Prop, (∃ m, W 0 m σ H1) ∧ ∀ i m σ H, W i m σ H →
  (J.stop i H ∧ D.nx σ H) ∨ (J.go i H ∧ ∃ N : L2.St → Hp → Prop, (∀ σ' H', N σ' H' → ∃ m', m' < m ∧ W (i + 1) m' σ' H') ∧ ∀ x H', J.yld i H x H' → g x σ H' fun σ2 H2 => tb { D with nx := N, ct := N, bk := D.nx } σ2 H2)
def aLc (J : It) (g : TG) (tt : TT) (te : TE) (vs : List Nat) (σ : L2.St) (H1 : Hp) (Q : VK) : Prop := ∀ D, H1 D = none → ∃ W : Nat → Nat → Hp → Prop, (∃ m, W 0 m (upd H1 D (.lst []))) ∧ ∀ i m H, W i m H →
  (J.stop i H ∧ Q (.ref D) H) ∨ (J.go i H ∧ ∃ Nx : Hp → Prop, (∀ H', Nx H' → ∃ m', m' < m ∧ W (i + 1) m' H') ∧ ∀ x H', J.yld i H x H' → g x (wipe σ vs) H' fun σ2 H2 => wipe σ2 vs = wipe σ vs ∧ tt σ2 H2 fun b H3 =>
    if b = true then te σ2 H3 fun y H4 => ∃ acc, H4 D = some (.lst acc) ∧ acc.length < sizeLine ∧ Nx (upd H4 D (.lst (acc ++ [y]))) else Nx H3)
section
variable {K : PySem.W.Frag} {σ : L2.St} {H F : Hp} {L : List (Addr × HO)} {Q : VK} {QI : It → Hp → Prop} {nx bk ct : L2.St → Hp → Prop} {rt : VK} {tb t : TS} {te tl : TE} {tt tc : TT} {g : TG} {tr : TA} {wi : TI} {J : It} {n : Nat} {item : Nat → V} {vs : List Nat}
theorem x_for (h : wi σ H fun J H1 => aFor J g tb ⟨nx, rt, bk, ct⟩ σ H1) : tFor wi g tb ⟨nx, rt, bk, ct⟩ σ H := h
theorem x_lc (h : wi σ H fun J H1 => aLc J g tt te vs σ H1 Q) : tLc wi g tt te vs σ H Q := h
theorem x_ilist (h : tl σ H fun x H1 => ∃ a, x = .ref a ∧ (∃ xs, SqL K H1 a xs) ∧ QI (Itl K a) H1) : iList K tl σ H QI := h
theorem x_ilist' {a : Addr} {xs : List V} {Pa : Addr → Prop} (hs : SqL K H a xs) (h : Pa a) : ∃ a', V.ref a = .ref a' ∧ (∃ xs, SqL K H a' xs) ∧ Pa a' := ⟨a, rfl, ⟨xs, hs⟩, h⟩
theorem x_itup (h : tl σ H fun x H1 => ∃ a, x = .ref a ∧ (∃ xs, SqT K H1 a xs) ∧ QI (Itt K a) H1) : iTup K tl σ H QI := h
theorem x_itup' {a : Addr} {xs : List V} {Pa : Addr → Prop} (hs : SqT K H a xs) (h : Pa a) : ∃ a', V.ref a = .ref a' ∧ (∃ xs, SqT K H a' xs) ∧ Pa a' := ⟨a, rfl, ⟨xs, hs⟩, h⟩
theorem x_istr (h : te σ H fun v H1 => ∃ x, v = .str x ∧ QI (Its x) H1) : iStr te σ H QI := h
theorem x_istr' {z : Str} {Pz : Str → Prop} (h : Pz z) : ∃ x, V.str z = .str x ∧ Pz x := ⟨z, rfl, h⟩
theorem x_irng1 (h : tr σ H fun vs H1 => ∃ j : Int, vs = [.int j] ∧ -(2 ^ 62) ≤ j ∧ j < 2 ^ 62 ∧ QI (Itr 0 j.toNat) H1) : iRng1 tr σ H QI := h
theorem x_irng1' {j : Int} {Pj : Int → Prop} (h1 : -(2 ^ 62) ≤ j) (h2 : j < 2 ^ 62) (h : Pj j) : ∃ j' : Int, [V.int j] = [.int j'] ∧ -(2 ^ 62) ≤ j' ∧ j' < 2 ^ 62 ∧ Pj j' := ⟨j, rfl, h1, h2, h⟩
theorem x_irng2 (h : tr σ H fun vs H1 => ∃ i j : Int, vs = [.int i, .int j] ∧ (-(2 ^ 62) ≤ i ∧ i < 2 ^ 62 ∧ -(2 ^ 62) ≤ j ∧ j < 2 ^ 62) ∧ QI (Itr i (j - i).toNat) H1) : iRng2 tr σ H QI := h
theorem x_irng2' {i j : Int} {Pj : Int → Int → Prop} (hb : -(2 ^ 62) ≤ i ∧ i < 2 ^ 62 ∧ -(2 ^ 62) ≤ j ∧ j < 2 ^ 62) (h : Pj i j) : ∃ i' j' : Int, [V.int i, V.int j] = [.int i', .int j'] ∧ (-(2 ^ 62) ≤ i' ∧ i' < 2 ^ 62 ∧ -(2 ^ 62) ≤ j' ∧ j' < 2 ^ 62) ∧ Pj i' j' := ⟨i, j, rfl, hb, h⟩
/-- THE LOOP: Pv between two turns -/
theorem x_forOk (ok : ItOk J F n item) (Pv : Nat → L2.St → Hp → Prop) (hg : ∀ i σ H, i ≤ n → Pv i σ H → Gr F H) (h0 : Pv 0 σ H)
    (hs : ∀ i σ H, i < n → Pv i σ H → g (item i) σ H fun σ2 H2 => tb ⟨Pv (i + 1), rt, nx, Pv (i + 1)⟩ σ2 H2) (hd : ∀ σ H, Pv n σ H → nx σ H) : aFor J g tb ⟨nx, rt, bk, ct⟩ σ H := by
  refine ⟨fun i m σ H => m = n - i ∧ i ≤ n ∧ Pv i σ H, ⟨n, by simp, Nat.zero_le _, h0⟩, ?_⟩
  rintro i m σ H ⟨rfl, hi, p⟩
  have q := hg i σ H hi p
  by_cases hlt : i < n
  · refine .inr ⟨ok.go i H q hlt, Pv (i + 1), fun σ' H' p' => ⟨n - (i + 1), by omega, rfl, hlt, p'⟩, fun x H' y => ?_⟩
    obtain ⟨rfl, rfl⟩ := ok.yld i H x H' q hlt y
    exact hs i σ _ hlt p
  · have e : i = n := by omega
    subst e
    exact .inl ⟨ok.stop H q, hd σ H p⟩
/-- A COMPREHENSION without a test: its i-th item has val i -/
theorem x_lcOk (ok : ItOk J F n item) (W : Hold F L H) (hn : n ≤ 100000) (val : Nat → V → Hp → Prop) (mono : ∀ i v F F', Gr F F' → val i v F → val i v F')
    (step : ∀ (d : Addr × HO) i F' H' (QQ : VK), i < n → Same F F' → Hold F' (L ++ [d]) H' → (∀ y F4 H4, Same F' F4 → Hold F4 (L ++ [d]) H4 → val i y F4 → QQ y H4) → g (item i) (wipe σ vs) H' fun σ2 H2 => wipe σ2 vs = wipe σ vs ∧ te σ2 H2 QQ)
    (gm : ∀ x σ H (Q Q' : L2.St → Hp → Prop), (∀ σ' H', Q σ' H' → Q' σ' H') → g x σ H Q → g x σ H Q')
    (done : ∀ (D : Addr) (ys : List V) (F' H' : Hp), Same F F' → ys.length = n → (∀ i, i < n → val i (ys.getD i .non) F') → Hold F' ((D, .lst ys) :: L) H' → Q (.ref D) H') : aLc J g tYes te vs σ H Q := by
  intro D hD
  refine ⟨fun i m H' => m = n - i ∧ i ≤ n ∧ ∃ ys F', Same F F' ∧ ys.length = i ∧ (∀ j, j < i → val j (ys.getD j .non) F') ∧ Hold F' ((D, .lst ys) :: L) H', ⟨n, by simp, Nat.zero_le _, [], F, Same.refl F, rfl, fun j h => absurd h (Nat.not_lt_zero _), W.make hD⟩, ?_⟩
  rintro i m H1 ⟨rfl, hi, ys, F1, s1, hl, hv, W1⟩
  have q : Gr F H1 := (Gr.of s1).trans W1.gr
  by_cases hlt : i < n
  · refine .inr ⟨ok.go i H1 q hlt, fun H' => ∃ ys F', Same F F' ∧ ys.length = i + 1 ∧ (∀ j, j < i + 1 → val j (ys.getD j .non) F') ∧ Hold F' ((D, .lst ys) :: L) H', fun H' p' => ⟨n - (i + 1), by omega, rfl, hlt, p'⟩, fun x H' y => ?_⟩
    obtain ⟨rfl, rfl⟩ := ok.yld i H1 x H' q hlt y
    have W2 : Hold F1 (L ++ [(D, .lst ys)]) H' := W1.perm (List.perm_append_singleton _ _).symm
    refine gm _ _ _ _ _ (fun σ2 H2 z => ⟨z.1, ?_⟩) (step (D, .lst ys) i F1 H' (fun y H4 => ∃ acc, H4 D = some (.lst acc) ∧ acc.length < sizeLine ∧ (∃ ys F', Same F F' ∧ ys.length = i + 1 ∧ (∀ j, j < i + 1 → val j (ys.getD j .non) F') ∧ Hold F' ((D, .lst ys) :: L) (upd H4 D (.lst (acc ++ [y]))))) hlt s1 W2 ?_)
    · exact x_yes (wT rfl z.2)
    · intro v F4 H4 s4 W4 hv4
      have W5 : Hold F4 ((D, .lst ys) :: L) H4 := W4.perm (List.perm_append_singleton _ _)
      refine ⟨ys, W5.get0, szlt (by omega), ys ++ [v], F4, fun a o e => s4 a o (s1 a o e), by rw [List.length_append, hl]; rfl, fun j hj => ?_, W5.put0⟩
      by_cases hji : j < i
      · have e : (ys ++ [v]).getD j .non = ys.getD j .non := by rw [List.getD_eq_getElem?_getD, List.getElem?_append_left (by omega), List.getD_eq_getElem?_getD]
        rw [e]
        exact mono j _ F1 F4 (Gr.of s4) (hv j hji)
      · have e : j = ys.length := by omega
        have e2 : (ys ++ [v]).getD j .non = v := by rw [e, List.getD_eq_getElem?_getD]; simp
        rw [e2, show j = i by omega]
        exact hv4
  · have e : i = n := by omega
    subst e
    exact .inl ⟨ok.stop H1 q, done D ys F1 H1 s1 hl hv W1⟩
theorem x_put0 {a C dx : Addr} {f : Str} {y : V} {fs fs' : List (Str × V)} {QH : Hp → Prop} (W : Hold F ((a, .ins C dx fs) :: L) H) (c : Cls K C) (m : NoAttr K C f) (hl : fs.length < 1000) (hp : putF f y fs = fs') (q : ∀ H', Hold F ((a, .ins C dx fs') :: L) H' → QH H') : aPut K (.ref a) y f H QH :=
  x_put W.get0 c m hl hp (q _ W.put0)
theorem x_putI {a C dx : Addr} {f : Str} {y : V} {fs fs' : List (Str × V)} {QH : Hp → Prop} (i : Nat) (W : Hold F L H) (hi : L[i]? = some (a, .ins C dx fs)) (c : Cls K C) (m : NoAttr K C f) (hl : fs.length < 1000) (hp : putF f y fs = fs') (q : ∀ H', Hold F (L.set i (a, .ins C dx fs')) H' → QH H') : aPut K (.ref a) y f H QH :=
  x_put (W.get i hi) c m hl hp (q _ (W.put i hi))
theorem wipe1 {σ : L2.St} {k : Nat} {x : Option V} : wipe (List.set (wipe σ [k]) k x) [k] = wipe σ [k] := by
  show ((((σ.set k none).set k x)).set k none) = σ.set k none
  rw [List.set_set, List.set_set]
theorem wipe2 {σ : L2.St} {j k : Nat} {x y : Option V} (h : j ≠ k) : wipe (List.set (List.set (wipe σ [j, k]) j x) k y) [j, k] = wipe σ [j, k] := by
  show (((((σ.set k none).set j none).set j x).set k y).set k none).set j none = (σ.set k none).set j none
  rw [List.set_set, List.set_set, List.set_comm _ _ h.symm, List.set_set, List.set_comm _ _ h, List.set_set]
theorem x_cut {u : TS} (Mid : L2.St → Hp → Prop) (h1 : t ⟨Mid, rt, bk, ct⟩ σ H) (h2 : ∀ σ' H', Mid σ' H' → u ⟨nx, rt, bk, ct⟩ σ' H') : C8.tCut t u ⟨nx, rt, bk, ct⟩ σ H := ⟨Mid, h1, h2⟩
theorem gm_name {i : Nat} : ∀ x σ H (Q Q' : L2.St → Hp → Prop), (∀ σ' H', Q σ' H' → Q' σ' H') → gName i x σ H Q → gName i x σ H Q' := fun _ _ _ _ _ h q => h _ _ q
/-- a while: W falls -/
theorem x_while (W : Nat → L2.St → Hp → Prop) (m0 : Nat) (h0 : W m0 σ H)
    (hs : ∀ m σ H, W m σ H → tc σ H fun b H1 => if b = true then ∃ N : L2.St → Hp → Prop, (∀ σ' H', N σ' H' → ∃ m', m' < m ∧ W m' σ' H') ∧ tb ⟨N, rt, nx, N⟩ σ H1 else nx σ H1) : tWhile tc tb ⟨nx, rt, bk, ct⟩ σ H := ⟨W, ⟨m0, h0⟩, hs⟩
theorem x_wN {W : Nat → L2.St → Hp → Prop} {m : Nat} (h : tb ⟨fun σ' H' => ∃ m', m' < m ∧ W m' σ' H', rt, nx, fun σ' H' => ∃ m', m' < m ∧ W m' σ' H'⟩ σ H) : ∃ N : L2.St → Hp → Prop, (∀ σ' H', N σ' H' → ∃ m', m' < m ∧ W m' σ' H') ∧ tb ⟨N, rt, nx, N⟩ σ H := ⟨_, fun _ _ z => z, h⟩
end
theorem str1 {n m : Nat} : V.str (T [n]) = V.str (T [m]) ↔ n = m := ⟨fun h => by have := T_inj.mp (V.str.inj h); simpa using this, fun h => by rw [h]⟩
theorem strT {l m : List Nat} : V.str (T l) = V.str (T m) ↔ l = m := ⟨fun h => T_inj.mp (V.str.inj h), fun h => by rw [h]⟩
theorem lt1 {n m : Nat} : decide (([n] : List Nat) < [m]) = decide (n < m) := by
  rw [Bool.eq_iff_iff, decide_eq_true_eq, decide_eq_true_eq, List.cons_lt_cons_iff]
  simp
section
variable {K : PySem.W.Frag} {H F : Hp} {L : List (Addr × HO)} {Q : VK} {p q : Addr} {xs ys : List V} {i j : Int} {lo hi : Option Int}
theorem n_tupleF (W : Hold F L H) (hp : SqL K H p xs) (k : ∀ (r : Addr) (F' H' : Hp), Same F F' → F' r = some (.tup xs) → Hold F' L H' → Q (.ref r) H') : uTuple K [.ref p] H Q := l_tupleL hp (newF W fun r F' H' s h W' _ => k r F' H' s h W')
theorem n_listF (W : Hold F L H) (hp : SqL K H p xs ∨ SqT K H p xs) (k : ∀ (r : Addr) (F' H' : Hp), Same F F' → F' r = some (.lst xs) → Hold F' L H' → Q (.ref r) H') : uList K [.ref p] H Q := l_list hp (newF W fun r F' H' s h W' _ => k r F' H' s h W')
theorem n_listL (W : Hold F L H) (hp : SqL K H p xs ∨ SqT K H p xs) (k : ∀ (r : Addr) (H' : Hp), Hold F ((r, .lst xs) :: L) H' → Q (.ref r) H') : uList K [.ref p] H Q := l_list hp (newL W k)
theorem n_slF (W : Hold F L H) (hp : SqL K H p xs) (k : ∀ (r : Addr) (F' H' : Hp), Same F F' → F' r = some (.lst (cutV xs lo hi)) → Hold F' L H' → Q (.ref r) H') : uSl K (.ref p) lo hi H Q := l_slL hp (newF W fun r F' H' s h W' _ => k r F' H' s h W')
theorem n_slL (W : Hold F L H) (hp : SqL K H p xs) (k : ∀ (r : Addr) (H' : Hp), Hold F ((r, .lst (cutV xs lo hi)) :: L) H' → Q (.ref r) H') : uSl K (.ref p) lo hi H Q := l_slL hp (newL W k)
theorem n_addF (W : Hold F L H) (hp : H p = some (.lst xs)) (hq : H q = some (.lst ys)) (hl : xs.length + ys.length ≤ sizeLine) (k : ∀ (r : Addr) (F' H' : Hp), Same F F' → F' r = some (.lst (xs ++ ys)) → Hold F' L H' → Q (.ref r) H') : uAdd K (.ref p) (.ref q) H Q := l_addL hp hq hl (newF W fun r F' H' s h W' _ => k r F' H' s h W')
theorem n_addL (W : Hold F L H) (hp : H p = some (.lst xs)) (hq : H q = some (.lst ys)) (hl : xs.length + ys.length ≤ sizeLine) (k : ∀ (r : Addr) (H' : Hp), Hold F ((r, .lst (xs ++ ys)) :: L) H' → Q (.ref r) H') : uAdd K (.ref p) (.ref q) H Q := l_addL hp hq hl (newL W k)
theorem rep_one {v : V} (n : Nat) : (List.replicate n [v]).flatten = List.replicate n v := by
  induction n with
  | zero => rfl
  | succ n ih => rw [List.replicate_succ, List.flatten_cons, ih, List.replicate_succ]; rfl
theorem n_mul1L {v : V} (W : Hold F L H) (hp : H p = some (.lst [v])) (h2 : j < 100000) (k : ∀ (r : Addr) (H' : Hp), Hold F ((r, .lst (List.replicate j.toNat v)) :: L) H' → Q (.ref r) H') (h1 : -100000 < j) : uMul K (.ref p) (.int j) H Q :=
  l_mulL hp (by omega) (by omega) (by show 1 * j.toNat ≤ _; exact szl (by omega)) (newL W fun r H' W' => k r H' (by rw [rep_one] at W'; exact W'))
theorem n_mul1F {v : V} (W : Hold F L H) (hp : H p = some (.lst [v])) (h2 : j < 100000) (k : ∀ (r : Addr) (F' H' : Hp), Same F F' → F' r = some (.lst (List.replicate j.toNat v)) → Hold F' L H' → Q (.ref r) H') (h1 : -100000 < j) : uMul K (.ref p) (.int j) H Q :=
  l_mulL hp (by omega) (by omega) (by show 1 * j.toNat ≤ _; exact szl (by omega)) (newF W fun r F' H' s h W' _ => k r F' H' s (by rw [rep_one] at h; exact h) W')
end
theorem tyX_gr {K : PySem.W.Frag} {F F' : Hp} {x : V} {t : Value} (g : Gr F F') (h : TyX K F x t) : TyX K F' x t := by
  cases h with
  | base b =>
    refine .base ?_
    cases b with
    | non => exact .non
    | bl y => exact .bl y
    | int i => exact .int i
    | str y => exact .str y
    | flt y => exact .flt y
    | lst e => exact .lst (g _ _ e fun _ z => by cases z)
    | frz e => exact .frz (g _ _ e fun _ z => by cases z)
    | tup e => exact .tup (g _ _ e fun _ z => by cases z)
    | dK e => exact .dK (g _ _ e fun _ z => by cases z)
    | dT e => exact .dT (g _ _ e fun _ z => by cases z)
    | ins e a b c d f => exact .ins (g _ _ e fun _ z => by cases z) a b c d f
  | byt b => exact .byt b
  | set e => exact .set (g _ _ e fun _ z => by cases z)
  | kList e c => exact .kList e c
  | kTuple e c => exact .kTuple e c
  | kDict e c => exact .kDict e c
  | fTuple e => exact .fTuple (g _ _ e fun _ z => by cases z)
  | fDict e => exact .fDict (g _ _ e fun _ z => by cases z)
theorem dpAll_of {K : PySem.W.Frag} {F : Hp} : ∀ {ys : List V} {ds : List PyData}, ys.length = ds.length → (∀ i, i < ds.length → Dp K F (ys.getD i .non) (ds.getD i .none)) → DpAll K F ys ds
  | [], [], _, _ => .nil
  | [], _ :: _, e, _ => (nomatch e)
  | _ :: _, [], e, _ => (nomatch e)
  | y :: ys, d :: ds, e, h => .cons (h 0 (Nat.zero_lt_succ _)) (dpAll_of (Nat.succ.inj e) fun i hi => h (i + 1) (Nat.succ_lt_succ hi))
theorem dp_ints {K : PySem.W.Frag} {F : Hp} : ∀ (l : List Nat), DpAll K F (l.map fun (n : Nat) => V.int n) (l.map fun (n : Nat) => .int n)
  | [] => .nil
  | n :: l => .cons (.int _) (dp_ints l)
theorem dpAll_len {K : PySem.W.Frag} {F : Hp} : ∀ {ys : List V} {ds : List PyData}, DpAll K F ys ds → ys.length = ds.length
  | _, _, .nil => rfl
  | _, _, .cons _ h => congrArg Nat.succ (dpAll_len h)
theorem dpAll_get {K : PySem.W.Frag} {F : Hp} : ∀ {ys : List V} {ds : List PyData}, DpAll K F ys ds → ∀ i, i < ds.length → Dp K F (ys.getD i .non) (ds.getD i .none)
  | _, _, .nil, _, h => absurd h (Nat.not_lt_zero _)
  | _, _, .cons h _, 0, _ => h
  | _, _, .cons _ h, i + 1, hi => dpAll_get h i (Nat.lt_of_succ_lt_succ hi)
theorem dpAll_app {K : PySem.W.Frag} {F : Hp} : ∀ {ys zs : List V} {ds es : List PyData}, DpAll K F ys ds → DpAll K F zs es → DpAll K F (ys ++ zs) (ds ++ es)
  | _, _, _, _, .nil, h => h
  | _, _, _, _, .cons h1 h2, h => .cons h1 (dpAll_app h2 h)
end Ss
/-! ## Part 8: leaves over texts by codes -/
namespace Ss
open PySem PySem.Spec PyProof.Rows L2
theorem st_of {K : PySem.W.Frag} {H : Hp} {a : Addr} {xs : List V} (h : H a = some (.tup xs)) : SqT K H a xs := Or.inl (Or.inl h)
theorem sq_of {K : PySem.W.Frag} {H : Hp} {a : Addr} {xs : List V} (h : H a = some (.lst xs)) : SqL K H a xs := Or.inl (Or.inl h)
def cutL {α : Type} (l : List α) (lo hi : Option Int) : List α := (l.drop (HT.sIx l.length 0 lo)).take (HT.sIx l.length l.length hi - HT.sIx l.length 0 lo)
theorem sIx_nat (n d k : Nat) : HT.sIx n d (some (k : Int)) = min k n := by
  show (if ((k : Nat) : Int) < 0 then (((k : Nat) : Int) + n).toNat else min ((k : Nat) : Int).toNat n) = _
  rw [if_neg (by omega)]
  omega
theorem sIx_neg (n d k : Nat) (hk : 0 < k) : HT.sIx n d (some (-(k : Int))) = n - k := by
  show (if -((k : Nat) : Int) < 0 then (-((k : Nat) : Int) + n).toNat else min (-((k : Nat) : Int)).toNat n) = _
  rw [if_pos (by omega)]
  omega
theorem drop_min {α : Type} (l : List α) (k : Nat) : l.drop (min k l.length) = l.drop k := by
  by_cases h : k ≤ l.length
  · rw [Nat.min_eq_left h]
  · rw [Nat.min_eq_right (by omega), List.drop_length, List.drop_eq_nil_of_le (by omega)]
/-- l[k:] -/
theorem cutL_from {α : Type} (l : List α) (k : Nat) : cutL l (some (k : Int)) none = l.drop k := by
  unfold cutL
  rw [sIx_nat, drop_min]
  show (l.drop k).take (l.length - min k l.length) = _
  exact List.take_of_length_le (by rw [List.length_drop]; omega)
/-- l[:k] -/
theorem cutL_to {α : Type} (l : List α) (k : Nat) : cutL l none (some (k : Int)) = l.take k := by
  unfold cutL
  rw [sIx_nat]
  show (l.drop 0).take (min k l.length - 0) = _
  rw [List.drop_zero, Nat.sub_zero]
  by_cases h : k ≤ l.length
  · rw [Nat.min_eq_left h]
  · rw [Nat.min_eq_right (by omega), List.take_length, List.take_of_length_le (by omega)]
/-- l[j:k] -/
theorem cutL_mid {α : Type} (l : List α) (j k : Nat) : cutL l (some (j : Int)) (some (k : Int)) = (l.drop j).take (k - j) := by
  unfold cutL
  rw [sIx_nat, sIx_nat, drop_min]
  by_cases h : k ≤ l.length
  · by_cases h2 : j ≤ l.length
    · rw [Nat.min_eq_left h, Nat.min_eq_left h2]
    · rw [List.drop_eq_nil_of_le (by omega)]; simp
  · rw [Nat.min_eq_right (by omega : l.length ≤ k)]
    rw [List.take_of_length_le (by rw [List.length_drop]; omega), List.take_of_length_le (by rw [List.length_drop]; omega)]
/-- l[j:-1] -/
theorem cutL_last {α : Type} (l : List α) (j : Nat) : cutL l (some (j : Int)) (some (-1)) = (l.drop j).take (l.length - 1 - j) := by
  unfold cutL
  rw [sIx_nat, drop_min, show (-1 : Int) = -((1 : Nat) : Int) from rfl, sIx_neg _ _ _ (by decide)]
  by_cases h2 : j ≤ l.length
  · rw [Nat.min_eq_left h2]
  · rw [List.drop_eq_nil_of_le (by omega)]; simp
theorem cutS_T (l : List Nat) (lo hi : Option Int) : cutS (T l) lo hi = T (cutL l lo hi) := by
  unfold cutS cutL
  rw [T_len, T_list]
theorem cutV_L (l : List V) (lo hi : Option Int) : cutV l lo hi = cutL l lo hi := rfl
theorem atI_nat {α : Type} {xs : List α} {i : Nat} {v : α} (h : xs[i]? = some v) : atI xs (i : Int) = some v := by
  have hi : i < xs.length := (List.getElem?_eq_some_iff.mp h).1
  unfold atI ixN
  rw [if_pos (by omega), if_pos (by omega)]
  exact h
theorem atI_last {α : Type} {xs : List α} {v : α} : atI (xs ++ [v]) (-1) = some v := by
  unfold atI ixN
  rw [if_neg (by omega), if_pos (by simp; omega)]
  have e : ((-1 : Int) + ((xs ++ [v]).length : Nat)).toNat = xs.length := by simp; omega
  rw [e]
  simp
theorem one1 {n m : Nat} : ([n] : List Nat) = [m] ↔ n = m := by simp
section
variable {K : PySem.W.Frag} {H F : Hp} {L : List (Addr × HO)} {Q : VK} {l m : List Nat} {i : Int} {n : Nat} {lo hi : Option Int}
theorem X_len (hl : l.length ≤ 100000000) (hs : l.length ≤ sizeLine) (h : Q (.int l.length) H) : uLen K [.str (T l)] H Q := l_lenS (by rw [T_len]; exact hs) (by rw [T_len]; exact h)
theorem l_lenX (hl : l.length ≤ 1000000) (h : Q (.int l.length) H) : uLen K [.str (T l)] H Q := l_lenS (by rw [T_len]; exact Nat.le_trans hl (by decide)) (by rw [T_len]; exact h)
theorem l_addX (hl : l.length + m.length ≤ 1000000) (h : Q (.str (T (l ++ m))) H) : uAdd K (.str (T l)) (.str (T m)) H Q := l_addS (by rw [T_len, T_len]; exact Nat.le_trans hl (by decide)) (by rw [T_app]; exact h)
theorem l_ixX (hl : l.length ≤ 1000000) (ha : atI l i = some n) (h : Q (.str (T [n])) H) : uIx K (.str (T l)) (.int i) H Q := l_ixS (by rw [T_len]; exact Nat.le_trans hl (by decide)) (by rw [T_list]; exact ha) h
theorem l_slX (hl : l.length ≤ 1000000) (h : Q (.str (T (cutL l lo hi))) H) : uSl K (.str (T l)) lo hi H Q := l_slS (by rw [T_len]; exact Nat.le_trans hl (by decide)) (by rw [cutS_T]; exact h)
theorem l_eqX (h : Q (.bl (decide (l = m))) H) : uEq K (.str (T l)) (.str (T m)) H Q := l_eq rfl (by rw [T_eq]; exact h)
theorem l_neX (h : Q (.bl (!decide (l = m))) H) : uNe K (.str (T l)) (.str (T m)) H Q := l_ne rfl (by rw [T_eq]; exact h)
theorem l_eqII {i j : Int} (h : Q (.bl (decide (i = j))) H) : uEq K (.int i) (.int j) H Q := l_eq rfl (by
  have e : decide (V.int i = V.int j) = decide (i = j) := by rw [Bool.eq_iff_iff]; simp
  rw [e]; exact h)
theorem l_neII {i j : Int} (h : Q (.bl (!decide (i = j))) H) : uNe K (.int i) (.int j) H Q := l_ne rfl (by
  have e : decide (V.int i = V.int j) = decide (i = j) := by rw [Bool.eq_iff_iff]; simp
  rw [e]; exact h)
theorem l_inX (h : Q (.bl (decide (n ∈ l))) H) : uIn K (.str (T [n])) (.str (T l)) H Q := l_inS (by rw [T_list]; exact h)
theorem l_niX (h : Q (.bl (!decide (n ∈ l))) H) : uNotIn K (.str (T [n])) (.str (T l)) H Q := l_niS (by rw [T_list]; exact h)
theorem l_count {s : Nat} (h : Q (.int (cnt s l)) H) : u_count (.str (T l)) [.str (T [s])] H Q := ⟨_, _, rfl, rfl, by rw [count_cnt, T_list]; exact h⟩
theorem l_split {ps : List (List Nat)} {s : Nat} (W : Hold F L H) (hs : s < 256) (hl : (TL.joinL [s] ps).length ≤ 1000000) (hne : ps ≠ []) (hp : ∀ p ∈ ps, s ∉ p)
    (k : ∀ (r : Addr) (F' H' : Hp), Same F F' → F' r = some (.lst (ps.map fun p => .str (T p))) → Hold F' L H' → Q (.ref r) H') : u_split (.str (T (TL.joinL [s] ps))) [.str (T [s])] H Q := by
  refine ⟨_, _, rfl, rfl, rfl, ?_, ?_⟩
  · rw [T_len]; exact Nat.le_trans (Nat.add_le_add_right hl 2) (by decide)
  have e : Txt.split (T (TL.joinL [s] ps)) (T [s]) = ps.map T := by
    have z := TL.split_join (y := T [s]) (s := s) (S := []) rfl (by simp; exact hs) (parts := ps.map T) (by simpa using hne) (fun p hp' => by
      obtain ⟨q, hq, rfl⟩ := List.mem_map.mp hp'
      exact hp q hq)
    have e2 : Txt.join (T [s]) (ps.map T) = T (TL.joinL [s] ps) := by
      refine TL.ext_tl ?_
      rw [TL.join_eq, TL.tl_join]
      have e3 : (ps.map T).map TL.tl = ps := by rw [List.map_map]; simp [Function.comp_def]
      rw [e3]
    rw [← e2]; exact z
  rw [e]
  have e4 : (ps.map T).map V.str = ps.map fun p => .str (T p) := by rw [List.map_map]; rfl
  intro r hr
  rw [e4]
  exact newF W (fun r F' H' s h W' _ => k r F' H' s h W') r hr
end
/-! ### numbers that are Nat's -/
section
variable {K : PySem.W.Frag} {H F : Hp} {L : List (Addr × HO)} {Q : VK} {n m k : Nat}
theorem g_addNN (h : Q (.int ((n + m : Nat) : Int)) H) : uAdd K (.int (n : Int)) (.int (m : Int)) H Q := l_addI h
theorem g_addNL (h : Q (.int ((n + OfNat.ofNat k : Nat) : Int)) H) : uAdd K (.int (n : Int)) (.int (OfNat.ofNat k)) H Q := l_addI h
theorem g_addLN (h : Q (.int ((OfNat.ofNat k + n : Nat) : Int)) H) : uAdd K (.int (OfNat.ofNat k)) (.int (n : Int)) H Q := l_addI h
theorem g_mulNN (hb : n < 2 ^ 400) (hb2 : m < 2 ^ 400) (h : Q (.int ((n * m : Nat) : Int)) H) : uMul K (.int (n : Int)) (.int (m : Int)) H Q :=
  l_mulI (mulx_ok (a := 400) (b := 400) (by omega) (by omega) (by decide)) (by
    have e : ((n * m : Nat) : Int) = (n : Int) * (m : Int) := Int.natCast_mul n m
    rw [← e]; exact h)
theorem g_divNL (hk : 0 < k) (hk2 : k < 2 ^ 100) (h : Q (.int ((n / OfNat.ofNat k : Nat) : Int)) H) : uDiv (.int (n : Int)) (.int (OfNat.ofNat k)) H Q := by
  refine l_divI (wide_div (b := 100) ?_ ?_ (by decide) (by decide)) (by
    have e : ((n / OfNat.ofNat k : Nat) : Int) = (n : Int) / (OfNat.ofNat k : Int) := by exact Int.natCast_ediv n k
    rw [← e]; exact h)
  · show (0 : Int) < ((k : Nat) : Int); omega
  · show ((k : Nat) : Int).natAbs < _; omega
theorem g_modNL (hk : 0 < k) (h : Q (.int ((n % OfNat.ofNat k : Nat) : Int)) H) : uMod (.int (n : Int)) (.int (OfNat.ofNat k)) H Q := by
  refine l_modI ?_ (by
    have e : ((n % OfNat.ofNat k : Nat) : Int) = (n : Int) % (OfNat.ofNat k : Int) := by exact Int.natCast_emod n k
    rw [← e]; exact h)
  · show (0 : Int) < ((k : Nat) : Int); omega
theorem g_modNN (hk : 0 < k) (h : Q (.int ((n % k : Nat) : Int)) H) : uMod (.int (n : Int)) (.int (k : Int)) H Q := by
  refine l_modI (by omega) (by
    have e : ((n % k : Nat) : Int) = (n : Int) % (k : Int) := Int.natCast_emod n k
    rw [← e]; exact h)
theorem g_divNN (hk : 0 < k) (hk2 : k < 2 ^ 100) (h : Q (.int ((n / k : Nat) : Int)) H) : uDiv (.int (n : Int)) (.int (k : Int)) H Q := by
  refine l_divI (wide_div (b := 100) (by omega) (by omega) (by decide) (by decide)) (by
    have e : ((n / k : Nat) : Int) = (n : Int) / (k : Int) := Int.natCast_ediv n k
    rw [← e]; exact h)
theorem g_eqNL (h : Q (.bl (decide (n = OfNat.ofNat k))) H) : uEq K (.int (n : Int)) (.int (OfNat.ofNat k)) H Q := l_eqII (by
  have e : decide ((n : Int) = (OfNat.ofNat k : Int)) = decide (n = OfNat.ofNat k) := by
    rw [Bool.eq_iff_iff, decide_eq_true_eq, decide_eq_true_eq]
    exact Int.ofNat_inj
  rw [e]; exact h)
theorem g_ltNL (h : Q (.bl (decide (n < OfNat.ofNat k))) H) : uLt (.int (n : Int)) (.int (OfNat.ofNat k)) H Q := l_ltI (by
  have e : decide ((n : Int) < (OfNat.ofNat k : Int)) = decide (n < OfNat.ofNat k) := by
    rw [Bool.eq_iff_iff, decide_eq_true_eq, decide_eq_true_eq]
    exact Int.ofNat_lt
  rw [e]; exact h)
/-- an item of a written text -/
theorem g_ixX {l : List Nat} (hl : l.length ≤ 1000000) (hi : n < l.length) (h : Q (.str (T [l.getD n 0])) H) : uIx K (.str (T l)) (.int (n : Int)) H Q :=
  l_ixX hl (atI_nat (by rw [List.getD_eq_getElem?_getD, List.getElem?_eq_getElem hi]; rfl)) h
theorem g_ixL {p : Addr} {xs : List V} (hp : SqL K H p xs) (hi : n < xs.length) (h : Q (xs.getD n .non) H) : uIx K (.ref p) (.int (n : Int)) H Q :=
  l_ixL hp (atI_nat (by rw [List.getD_eq_getElem?_getD, List.getElem?_eq_getElem hi]; rfl)) h
end
/-! ### join, str -/
section
variable {K : PySem.W.Frag} {H F : Hp} {L : List (Addr × HO)} {Q : VK}
theorem l_strN {n : Nat} (hn : n < 2 ^ 1000) (h : Q (.str (T (TL.numL n))) H) : uStr [.int ((n : Nat) : Int)] H Q := by
  refine l_str ?_ ?_
  · rw [Int.natAbs_natCast]
    by_cases h0 : n = 0
    · rw [h0]; decide
    · exact Nat.lt_trans ((Nat.log2_lt h0).mpr hn) (by decide)
  · have e : (Str.ofString (toString ((n : Nat) : Int))) = T (TL.numL n) := TL.ext_tl (by rw [TL.tl_num, TL.tl_mk])
    rw [e]; exact h
theorem sum_le {b : Nat} : ∀ {l : List Nat}, (∀ x ∈ l, x ≤ b) → l.sum ≤ b * l.length
  | [], _ => by simp
  | x :: l, h => by
    have h1 := h x List.mem_cons_self
    have h2 := sum_le (l := l) fun y hy => h y (List.mem_cons_of_mem _ hy)
    rw [List.sum_cons, List.length_cons, Nat.mul_succ]
    omega
theorem l_join {p : Addr} {ls : List (List Nat)} {sep : List Nat} (b : Nat) (hs : SqL K H p (ls.map fun l => .str (T l)) ∨ SqT K H p (ls.map fun l => .str (T l))) (hb : ∀ l ∈ ls, l.length ≤ b) (hn : b * ls.length + ls.length * sep.length ≤ 16000000)
    (h : Q (.str (T (TL.joinL sep ls))) H) : u_join K (.str (T sep)) [.ref p] H Q := by
  have e4 : (ls.map T).map V.str = ls.map fun l => .str (T l) := by rw [List.map_map]; rfl
  refine ⟨T sep, p, ls.map T, rfl, rfl, by rw [e4]; exact hs, ?_, ?_⟩
  · have e : ((ls.map T).map (·.length)) = ls.map (·.length) := by
      rw [List.map_map]
      exact List.map_congr_left fun l _ => T_len l
    rw [e, T_len, List.length_map]
    have := sum_le (b := b) (l := ls.map (·.length)) fun x hx => by obtain ⟨l, hl, rfl⟩ := List.mem_map.mp hx; exact hb l hl
    rw [List.length_map] at this
    omega
  · have e2 : Txt.join (T sep) (ls.map T) = T (TL.joinL sep ls) := by
      refine TL.ext_tl ?_
      rw [TL.join_eq, TL.tl_join]
      have e3 : (ls.map T).map TL.tl = ls := by rw [List.map_map]; simp [Function.comp_def]
      rw [e3]
    rw [e2]; exact h
theorem joinL_nil : ∀ (ls : List (List Nat)), TL.joinL [] ls = ls.flatten
  | [] => rfl
  | [l] => by simp [TL.joinL]
  | l :: m :: ls => by
    show l ++ ([] ++ TL.joinL [] (m :: ls)) = _
    rw [joinL_nil (m :: ls)]
    simp
theorem joinL_len {sep : List Nat} {b : Nat} : ∀ {ls : List (List Nat)}, (∀ l ∈ ls, l.length ≤ b) → (TL.joinL sep ls).length ≤ (b + sep.length) * ls.length
  | [], _ => by simp [TL.joinL]
  | [l], h => by have := h l List.mem_cons_self; simp [TL.joinL]; omega
  | l :: m :: ls, h => by
    have h1 := h l List.mem_cons_self
    have h2 := joinL_len (sep := sep) (ls := m :: ls) fun x hx => h x (List.mem_cons_of_mem _ hx)
    show (l ++ (sep ++ TL.joinL sep (m :: ls))).length ≤ _
    rw [List.length_append, List.length_append, List.length_cons, Nat.mul_succ]
    omega
end
theorem numL_len4 {n : Nat} (h : n ≤ 9999) : (TL.numL n).length ≤ 4 := TL.numL_len (by decide) (by omega)
/-! ### written dicts -/
theorem pairs_const {σ : L2.St} {R : List (V × V) → Hp → Prop} : ∀ (kvs : List (Key × V)) {H : Hp}, R (kvs.map fun kv => (kV kv.1, kv.2)) H → tPairs (kvs.map fun kv => ((tC (kV kv.1), tC kv.2) : TE × TE)) σ H R
  | [], H, h => h
  | kv :: kvs, H, h => pairs_const (R := fun ps H' => R ((kV kv.1, kv.2) :: ps) H') kvs h
theorem n_dispC {σ : L2.St} {H F : Hp} {L : List (Addr × HO)} {Q : VK} {trs : List (TE × TE)} (kvs : List (Key × V)) (W : Hold F L H) (e : trs = kvs.map fun kv => ((tC (kV kv.1), tC kv.2) : TE × TE)) (hl : kvs.length ≤ 15)
    (k : ∀ (p : Addr) (H' : Hp), Hold F ((p, .dK (mergeK [] kvs)) :: L) H' → Q (.ref p) H') : tDisp trs σ H Q := by
  subst e
  intro p hp
  refine pairs_const kvs ⟨upd_same, kvs, rfl, hl, k p _ ?_⟩
  rw [upd_upd]
  exact W.make hp
theorem x_dget2 {σ : L2.St} {H : Hp} {Q : VK} {td ty tx : TE} (h : td σ H fun x H1 => ∃ a, x = .ref a ∧ IsD H1 a ∧ ty σ H1 fun y H2 => tx σ H2 fun z H3 => ∃ o, DGet H3 a y o ∧ Q (o.getD z) H3) : tDGet2 td ty tx σ H Q := h
theorem x_isd {H : Hp} {a : Addr} {kvs : List (Key × V)} {P : Addr → Prop} (h : H a = some (.dK kvs)) (q : P a) : ∃ a', V.ref a = .ref a' ∧ IsD H a' ∧ P a' := ⟨a, rfl, .inl ⟨kvs, .inl h⟩, q⟩
theorem x_dgetS {H : Hp} {a : Addr} {kvs : List (Key × V)} {z : Str} {P : Option V → Prop} (h : H a = some (.dK kvs)) (q : P (valV kvs (Sum.inr z))) : ∃ o, DGet H a (.str z) o ∧ P o := ⟨_, DGet.k (k := Sum.inr z) h, q⟩
/-! ### data that == takes -/
def Sh (k : Nat) (d : PyData) : Prop := d.canLay0 = true ∧ d.depth ≤ k
theorem Sh.shaped {k : Nat} {d : PyData} (h : Sh k d) (hk : k ≤ 64) : SeqAt.shaped d = true := by
  unfold SeqAt.shaped
  rw [h.1, decide_eq_true (Nat.le_trans h.2 hk)]; rfl
theorem Sh.eqv {k : Nat} {d : PyData} (h : Sh k d) : PyData.eqv d d = true := SeqAt.eqv_refl d h.1
theorem Sh.none {k : Nat} : Sh k .none := ⟨rfl, Nat.zero_le _⟩
theorem Sh.bl {k : Nat} {b : Bool} : Sh k (.bool b) := ⟨rfl, Nat.zero_le _⟩
theorem Sh.int {k : Nat} {i : Int} : Sh k (.int i) := ⟨rfl, Nat.zero_le _⟩
theorem Sh.str {k : Nat} {l : List Nat} (h : ∀ x ∈ l, x < 1114112) : Sh k (.str (T l)) := ⟨by
  show (T l).cps.all (· < 0x110000) = true
  rw [← Array.all_toList, T_list, List.all_eq_true]
  exact fun x hx => decide_eq_true (h x hx), Nat.zero_le _⟩
theorem sh_all {k : Nat} : ∀ {ds : List PyData}, (∀ d ∈ ds, Sh k d) → PyData.canLayAll0 ds = true ∧ PyData.depthAll ds ≤ k
  | [], _ => ⟨rfl, Nat.zero_le _⟩
  | d :: ds, h => by
    obtain ⟨a, b⟩ := h d List.mem_cons_self
    obtain ⟨a2, b2⟩ := sh_all (ds := ds) fun x hx => h x (List.mem_cons_of_mem _ hx)
    refine ⟨?_, ?_⟩
    · show (d.canLay0 && PyData.canLayAll0 ds) = true
      rw [a, a2]; rfl
    · show max d.depth (PyData.depthAll ds) ≤ k
      exact Nat.max_le.mpr ⟨b, b2⟩
theorem Sh.lst {k : Nat} {ds : List PyData} (h : ∀ d ∈ ds, Sh k d) : Sh (k + 1) (.list ds) := ⟨(sh_all h).1, Nat.succ_le_succ (sh_all h).2⟩
theorem Sh.tup {k : Nat} {ds : List PyData} (h : ∀ d ∈ ds, Sh k d) : Sh (k + 1) (.tuple ds) := ⟨(sh_all h).1, Nat.succ_le_succ (sh_all h).2⟩
theorem Sh.ints {k : Nat} (l : List Int) : Sh (k + 1) (.list (l.map PyData.int)) := .lst fun d hd => by
  obtain ⟨i, _, rfl⟩ := List.mem_map.mp hd
  exact .int
theorem dpAll_ints {K : PySem.W.Frag} {F : Hp} : ∀ (l : List Int), DpAll K F (l.map V.int) (l.map PyData.int)
  | [] => .nil
  | n :: l => .cons (.int _) (dpAll_ints l)
theorem Sh.mono {k k' : Nat} {d : PyData} (h : Sh k d) (hk : k ≤ k') : Sh k' d := ⟨h.1, Nat.le_trans h.2 hk⟩
end Ss
/-! ## Reader: the model -/
namespace Ss
open PySem PySem.Spec PyProof.Rows L2
abbrev v_SMALL (_ : Ctx) : V := .str ⟨#[97, 98, 99, 100, 101, 102, 103, 104, 105, 106, 107, 108, 109, 110, 111, 112, 113, 114, 115, 116, 117, 118, 119, 120, 121, 122]⟩
abbrev v_GREAT (_ : Ctx) : V := .str ⟨#[65, 66, 67, 68, 69, 70, 71, 72, 73, 74, 75, 76, 77, 78, 79, 80, 81, 82, 83, 84, 85, 86, 87, 88, 89, 90]⟩
abbrev v_FIGURES (_ : Ctx) : V := .str ⟨#[48, 49, 50, 51, 52, 53, 54, 55, 56, 57]⟩
abbrev v_MOST_TEXT (_ : Ctx) : V := .int 4000
abbrev v_MOST_FIGURES (_ : Ctx) : V := .int 4
abbrev v_MOST_ARGUMENTS (_ : Ctx) : V := .int 4
abbrev v_BARRED (_ : Ctx) : V := .int 37
abbrev v_GAP (_ : Ctx) : V := .str ⟨#[10]⟩
/-! ### the attributes of a Reader -/
def fsReader (x0 x1 : V) : List (Str × V) := [("begun", x0), ("lost", x1)]
theorem fsReader_len {x0 x1 : V} : (fsReader x0 x1).length < 1000 := by show 2 < 1000; decide
theorem fsReader_g0 {x0 x1 : V} : (fsReader x0 x1).lookup ("begun" : Str) = some x0 := by kernel_rfl
theorem fsReader_p0 {x0 x1 y : V} : putF "begun" y (fsReader x0 x1) = fsReader y x1 := by kernel_rfl
theorem fsReader_g1 {x0 x1 : V} : (fsReader x0 x1).lookup ("lost" : Str) = some x1 := by kernel_rfl
theorem fsReader_p1 {x0 x1 y : V} : putF "lost" y (fsReader x0 x1) = fsReader x0 y := by kernel_rfl
theorem fsReader_m_dropped {x0 x1 : V} : (fsReader x0 x1).lookup ("dropped" : Str) = none := by kernel_rfl
theorem fsReader_m_left {x0 x1 : V} : (fsReader x0 x1).lookup ("left" : Str) = none := by kernel_rfl
theorem fsReader_m_feed {x0 x1 : V} : (fsReader x0 x1).lookup ("feed" : Str) = none := by kernel_rfl
theorem fsReader_m_plain {x0 x1 : V} : (fsReader x0 x1).lookup ("plain" : Str) = none := by kernel_rfl
theorem fsReader_m_read {x0 x1 : V} : (fsReader x0 x1).lookup ("read" : Str) = none := by kernel_rfl
theorem fsReader_m_can_go_on {x0 x1 : V} : (fsReader x0 x1).lookup ("can_go_on" : Str) = none := by kernel_rfl
theorem fsReader_m_whole {x0 x1 : V} : (fsReader x0 x1).lookup ("whole" : Str) = none := by kernel_rfl
/-- what is asked of the class -/
structure FReader (c : Ctx) : Prop where
  cl : Cls c.K c.cReader
  n_begun : NoAttr c.K c.cReader "begun"
  n_lost : NoAttr c.K c.cReader "lost"

/-- the signs -/
def isSign (n : Nat) : Bool := n == 10 || (decide (32 ≤ n) && decide (n ≤ 126) && n != 37)
def isSmall (n : Nat) : Bool := decide (97 ≤ n) && decide (n ≤ 122)
def isGreat (n : Nat) : Bool := decide (65 ≤ n) && decide (n ≤ 90)
def isFig (n : Nat) : Bool := decide (48 ≤ n) && decide (n ≤ 57)
/-- what signs tell -/
inductive Tk where
  | sign (n : Nat)
  | fin
  | act (w : Nat) (ns : List Nat)
  deriving DecidableEq
/-- a command that isn't whole yet -/
inductive Pre where
  | no | hat | cap (g : Nat) | op (g : Nat) (ps : List (List Nat)) (la : List Nat)
  deriving DecidableEq
def partsText (ps : List (List Nat)) : List Nat := ps.flatMap (· ++ [44])
def Pre.text : Pre → List Nat
  | .no => []
  | .hat => [94]
  | .cap g => [94, g]
  | .op g ps la => [94, g, 40] ++ (partsText ps ++ la)
def figsOk (l : List Nat) : Prop := l.length ≤ 4 ∧ ∀ x ∈ l, isFig x = true
def Pre.Wf : Pre → Prop
  | .no => True
  | .hat => True
  | .cap g => isGreat g = true
  | .op g ps la => isGreat g = true ∧ ps.length ≤ 3 ∧ (∀ p ∈ ps, p ≠ [] ∧ figsOk p) ∧ figsOk la
/-- a command goes on with a sign -/
def Pre.step (p : Pre) (n : Nat) : Option (Pre × List Tk) :=
  match p with
  | .no => none
  | .hat => if n = 94 then some (.no, [.sign 94]) else if isSmall n then some (.no, [.act n []]) else if isGreat n then some (.cap n, []) else none
  | .cap g => if n = 40 then some (.op g [] [], []) else none
  | .op g ps la =>
    if isFig n then (if la.length < 4 then some (.op g ps (la ++ [n]), []) else none)
    else if n = 44 then (if la ≠ [] ∧ ps.length < 3 then some (.op g (ps ++ [la]) [], []) else none)
    else if n = 41 ∧ (la ≠ [] ∨ ps = []) then some (.no, [.act g (if ps = [] ∧ la = [] then [] else (ps ++ [la]).map NumText.digitsVal)]) else none
/-- a reader: what is begun, how many were dropped -/
structure Rdr where
  pre : Pre
  lost : Nat
def plain (n : Nat) : Pre × List Tk := if n = 94 then (.hat, []) else if n = 10 then (.no, [.fin]) else (.no, [.sign n])
def Rdr.read (r : Rdr) (n : Nat) : Rdr × List Tk :=
  if r.pre = .no then (⟨(plain n).1, r.lost⟩, (plain n).2)
  else match r.pre.step n with
    | some (p, ts) => (⟨p, r.lost⟩, ts)
    | none => (⟨(plain n).1, r.lost + r.pre.text.length⟩, (plain n).2)
def Rdr.feed (r : Rdr) : List Nat → Rdr × List Tk
  | [] => (r, [])
  | n :: l => ((r.read n).1.feed l |>.1, (r.read n).2 ++ ((r.read n).1.feed l).2)
def Rdr.new : Rdr := ⟨.no, 0⟩
/-! ### the reader's promises hold on -/
theorem plain_wf (n : Nat) : (plain n).1.Wf := by
  unfold plain
  split
  · trivial
  · split <;> trivial
theorem step_wf {p q : Pre} {n : Nat} {ts : List Tk} (h : p.Wf) (e : p.step n = some (q, ts)) : q.Wf := by
  cases p with
  | no => cases e
  | hat =>
    unfold Pre.step at e
    dsimp only at e
    split at e
    · cases e; trivial
    · split at e
      · cases e; trivial
      · split at e
        · rename_i hg; cases e; exact hg
        · cases e
  | cap g =>
    unfold Pre.step at e
    dsimp only at e
    split at e
    · cases e; exact ⟨h, by simp, by simp, by simp [figsOk]⟩
    · cases e
  | op g ps la =>
    obtain ⟨h1, h2, h3, h4⟩ := h
    unfold Pre.step at e
    dsimp only at e
    split at e
    · rename_i hf
      split at e
      · rename_i hl
        cases e
        refine ⟨h1, h2, h3, by rw [List.length_append]; simp; omega, fun x hx => ?_⟩
        rcases List.mem_append.mp hx with hx | hx
        · exact h4.2 x hx
        · rw [List.mem_singleton.mp hx]; exact hf
      · cases e
    · split at e
      · split at e
        · rename_i hl
          cases e
          refine ⟨h1, by rw [List.length_append]; simp; omega, fun q hq => ?_, by simp [figsOk]⟩
          rcases List.mem_append.mp hq with hq | hq
          · exact h3 q hq
          · rw [List.mem_singleton.mp hq]; exact ⟨hl.1, h4⟩
        · cases e
      · split at e
        · cases e; trivial
        · cases e
theorem read_wf {r : Rdr} {n : Nat} (h : r.pre.Wf) : (r.read n).1.pre.Wf := by
  unfold Rdr.read
  split
  · exact plain_wf n
  · split
    · rename_i p ts e; exact step_wf h e
    · exact plain_wf n
theorem feed_wf {r : Rdr} : ∀ {l : List Nat}, r.pre.Wf → (r.feed l).1.pre.Wf
  | [], h => h
  | n :: l, h => feed_wf (r := (r.read n).1) (l := l) (read_wf h)
theorem feed_app (r : Rdr) : ∀ (l m : List Nat), r.feed (l ++ m) = ((r.feed l).1.feed m |>.1, (r.feed l).2 ++ ((r.feed l).1.feed m).2)
  | [], m => by simp [Rdr.feed]
  | n :: l, m => by
    show ((r.read n).1.feed (l ++ m) |>.1, (r.read n).2 ++ ((r.read n).1.feed (l ++ m)).2) = _
    rw [feed_app (r.read n).1 l m]
    simp [Rdr.feed]
theorem plain_len (n : Nat) : (plain n).2.length ≤ 1 := by
  unfold plain
  split
  · simp
  · split <;> simp
theorem read_len (r : Rdr) (n : Nat) : (r.read n).2.length ≤ 1 := by
  unfold Rdr.read
  split
  · exact plain_len n
  · split
    · rename_i p ts h
      cases hp : r.pre with
      | no => rw [hp] at h; cases h
      | hat =>
        rw [hp] at h
        unfold Pre.step at h
        dsimp only at h
        split at h
        · cases h; simp
        · split at h
          · cases h; simp
          · split at h <;> cases h; simp
      | cap g =>
        rw [hp] at h
        unfold Pre.step at h
        dsimp only at h
        split at h <;> cases h; simp
      | op g ps la =>
        rw [hp] at h
        unfold Pre.step at h
        dsimp only at h
        split at h
        · split at h <;> cases h; simp
        · split at h
          · split at h <;> cases h; simp
          · split at h <;> cases h; simp
    · exact plain_len n
theorem feed_len' (r : Rdr) : ∀ (l : List Nat), (r.feed l).2.length ≤ l.length
  | [] => Nat.le_refl _
  | n :: l => by
    have h1 := read_len r n
    have h2 := feed_len' (r.read n).1 l
    show ((r.read n).2 ++ ((r.read n).1.feed l).2).length ≤ _
    rw [List.length_append, List.length_cons]
    omega
theorem feed_len (r : Rdr) (i : Nat) (l : List Nat) : (r.feed (l.take i)).2.length ≤ i := Nat.le_trans (feed_len' r _) (by rw [List.length_take]; omega)
theorem parts_len : ∀ {ps : List (List Nat)}, (∀ p ∈ ps, p ≠ [] ∧ figsOk p) → (partsText ps).length ≤ 5 * ps.length
  | [], _ => by simp [partsText]
  | p :: ps, h => by
    have h1 := (h p List.mem_cons_self).2.1
    have h2 := parts_len (ps := ps) fun q hq => h q (List.mem_cons_of_mem _ hq)
    have e : partsText (p :: ps) = p ++ [44] ++ partsText ps := by simp [partsText]
    rw [e, List.length_append, List.length_append, List.length_cons]
    simp
    omega
theorem text_len {p : Pre} (h : p.Wf) : p.text.length ≤ 22 := by
  cases p with
  | no => simp [Pre.text]
  | hat => simp [Pre.text]
  | cap g => simp [Pre.text]
  | op g ps la =>
    have h1 := parts_len h.2.2.1
    have h2 := h.2.1
    have h3 := h.2.2.2.1
    simp only [Pre.text, List.length_append, List.length_cons, List.length_nil]
    omega
theorem text_no {p : Pre} : p.text = [] ↔ p = .no := by cases p <;> simp [Pre.text]
theorem joinL_parts : ∀ (ps : List (List Nat)) (la : List Nat), TL.joinL [44] (ps ++ [la]) = partsText ps ++ la
  | [], la => rfl
  | [p], la => by simp [partsText, TL.joinL]
  | p :: q :: ps, la => by
    have ih := joinL_parts (q :: ps) la
    show p ++ ([44] ++ TL.joinL [44] ((q :: ps) ++ [la])) = partsText (p :: q :: ps) ++ la
    rw [ih]
    simp [partsText]
theorem fig_ne {x : Nat} (h : isFig x = true) : x ≠ 44 ∧ x ≠ 40 ∧ x ≠ 41 ∧ x ≠ 94 := by
  unfold isFig at h
  simp at h
  omega
theorem fig_free {l : List Nat} (h : figsOk l) : 44 ∉ l := fun hm => (fig_ne (h.2 44 hm)).1 rfl
theorem cnt_parts : ∀ {ps : List (List Nat)}, (∀ p ∈ ps, p ≠ [] ∧ figsOk p) → cnt 44 (partsText ps) = ps.length
  | [], _ => rfl
  | p :: ps, h => by
    have e : partsText (p :: ps) = p ++ ([44] ++ partsText ps) := by simp [partsText]
    rw [e, cnt_append, cnt_append, cnt_parts fun q hq => h q (List.mem_cons_of_mem _ hq), cnt_none 44 p (fig_free (h p List.mem_cons_self).2)]
    have e2 : cnt 44 [44] = 1 := by rw [cnt_cons, cnt_nil]; rfl
    rw [e2, List.length_cons]
    omega
theorem step_cases {p q : Pre} {n : Nat} {ts : List Tk} (wf : p.Wf) (h : p.step n = some (q, ts)) :
    (p = .hat ∧ n = 94 ∧ q = .no ∧ ts = [.sign 94]) ∨ (p = .hat ∧ n ≠ 94 ∧ isSmall n = true ∧ q = .no ∧ ts = [.act n []]) ∨
    (ts = [] ∧ q.text = p.text ++ [n] ∧ n ≠ 41 ∧ p.text ++ [n] ≠ [94, 94] ∧ ¬ (p.text.length = 1 ∧ isSmall n = true) ∧ p ≠ .no) ∨
    (∃ g ps la, p = .op g ps la ∧ n = 41 ∧ (la ≠ [] ∨ ps = []) ∧ q = .no ∧ ts = [.act g (if ps = [] ∧ la = [] then [] else (ps ++ [la]).map NumText.digitsVal)]) := by
  cases p with
  | no => cases h
  | hat =>
    unfold Pre.step at h
    dsimp only at h
    by_cases h1 : n = 94
    · rw [if_pos h1] at h; cases h; exact .inl ⟨rfl, h1, rfl, rfl⟩
    · rw [if_neg h1] at h
      by_cases h2 : isSmall n = true
      · rw [if_pos h2] at h; cases h; exact .inr (.inl ⟨rfl, h1, h2, rfl, rfl⟩)
      · rw [if_neg h2] at h
        by_cases h3 : isGreat n = true
        · rw [if_pos h3] at h; cases h
          refine .inr (.inr (.inl ⟨rfl, rfl, ?_, by simp [Pre.text, h1], fun z => h2 z.2, by simp⟩))
          unfold isGreat at h3; simp at h3; omega
        · rw [if_neg h3] at h; cases h
  | cap g =>
    unfold Pre.step at h
    dsimp only at h
    by_cases h1 : n = 40
    · rw [if_pos h1] at h; cases h; subst h1
      exact .inr (.inr (.inl ⟨rfl, rfl, by decide, by simp [Pre.text], by simp [Pre.text], by simp⟩))
    · rw [if_neg h1] at h; cases h
  | op g ps la =>
    have t2 : (Pre.op g ps la).text ++ [n] ≠ [94, 94] := fun e => by
      have := congrArg List.length e
      simp [Pre.text] at this
    have t3 : ¬ ((Pre.op g ps la).text.length = 1 ∧ isSmall n = true) := fun e => by
      have := e.1
      simp [Pre.text] at this
    unfold Pre.step at h
    dsimp only at h
    by_cases h1 : isFig n = true
    · rw [if_pos h1] at h
      by_cases h2 : la.length < 4
      · rw [if_pos h2] at h; cases h
        exact .inr (.inr (.inl ⟨rfl, by simp [Pre.text], (fig_ne h1).2.2.1, t2, t3, by simp⟩))
      · rw [if_neg h2] at h; cases h
    · rw [if_neg h1] at h
      by_cases h2 : n = 44
      · rw [if_pos h2] at h
        by_cases h3 : la ≠ [] ∧ ps.length < 3
        · rw [if_pos h3] at h; cases h
          exact .inr (.inr (.inl ⟨rfl, by simp [Pre.text, partsText, h2], by omega, t2, t3, by simp⟩))
        · rw [if_neg h3] at h; cases h
      · rw [if_neg h2] at h
        by_cases h3 : n = 41 ∧ (la ≠ [] ∨ ps = [])
        · rw [if_pos h3] at h; cases h
          exact .inr (.inr (.inr ⟨g, ps, la, rfl, h3.1, h3.2, rfl, rfl⟩))
        · rw [if_neg h3] at h; cases h
theorem figs_all {l : List Nat} (h : figsOk l) : NumText.AllDigits l := fun x hx => by
  have := h.2 x hx
  unfold isFig at this
  simp at this
  exact this
/-- one thing told, as data -/
def Tk.data : Tk → PyData
  | .sign n => .tuple [.str (T [115, 105, 103, 110]), .str (T [n])]
  | .fin => .tuple [.str (T [101, 110, 100])]
  | .act w ns => .tuple [.str (T [100, 111]), .str (T [w]), .tuple (ns.map fun (n : Nat) => .int n)]
theorem isSmall_mem (n : Nat) : decide (n ∈ (T [97, 98, 99, 100, 101, 102, 103, 104, 105, 106, 107, 108, 109, 110, 111, 112, 113, 114, 115, 116, 117, 118, 119, 120, 121, 122]).cps.toList) = isSmall n := by
  rw [T_list, Bool.eq_iff_iff]
  simp only [decide_eq_true_eq, isSmall, Bool.and_eq_true, List.mem_cons, List.not_mem_nil, or_false]
  omega
theorem isFig_mem' (n : Nat) : decide (n ∈ ([48, 49, 50, 51, 52, 53, 54, 55, 56, 57] : List Nat)) = isFig n := by
  rw [Bool.eq_iff_iff]
  simp only [decide_eq_true_eq, isFig, Bool.and_eq_true, List.mem_cons, List.not_mem_nil, or_false]
  omega
theorem isSmall_mem' (n : Nat) : decide (n ∈ ([97, 98, 99, 100, 101, 102, 103, 104, 105, 106, 107, 108, 109, 110, 111, 112, 113, 114, 115, 116, 117, 118, 119, 120, 121, 122] : List Nat)) = isSmall n := by
  rw [Bool.eq_iff_iff]
  simp only [decide_eq_true_eq, isSmall, Bool.and_eq_true, List.mem_cons, List.not_mem_nil, or_false]
  omega
theorem isFig_mem (n : Nat) : decide (n ∈ (T [48, 49, 50, 51, 52, 53, 54, 55, 56, 57]).cps.toList) = isFig n := by
  rw [T_list, Bool.eq_iff_iff]
  simp only [decide_eq_true_eq, isFig, Bool.and_eq_true, List.mem_cons, List.not_mem_nil, or_false]
  omega
end Ss
/-! ## Reader: promises and readings -/
namespace Ss
open PySem PySem.Spec PyProof.Rows L2
open Ss in
local macro_rules | `(tactic| walk_at "fg") => `(tactic| first | with_reducible exact fsReader_g0 | with_reducible exact fsReader_g1)
open Ss in
local macro_rules | `(tactic| walk_at "r") => `(tactic| repeat (first
  | with_reducible refine x_seq ?_ | with_reducible refine x_asg ?_ | with_reducible refine x_var rfl ?_ | with_reducible refine x_c ?_ | with_reducible refine x_op ?_ | with_reducible refine x_name ?_ | with_reducible refine x_gcons ?_ | with_reducible refine x_gnil ?_
  | with_reducible refine x_cons ?_ | with_reducible refine x_nil ?_ | with_reducible refine x_cb ?_ | with_reducible refine x_ifs ?_ | with_reducible refine x_test ?_ | with_reducible refine x_bl ?_
  | with_reducible refine g_addNN ?_ | with_reducible refine g_addNL ?_ | with_reducible refine g_addLN ?_ | with_reducible refine l_addI ?_ | with_reducible refine l_subI ?_ | with_reducible refine g_ltNL ?_ | with_reducible refine l_ltI ?_ | with_reducible refine l_leI ?_ | with_reducible refine l_gtI ?_ | with_reducible refine l_geI ?_ | with_reducible refine l_eqX ?_ | with_reducible refine l_neX ?_ | with_reducible refine g_eqNL ?_ | with_reducible refine l_eqII ?_ | with_reducible refine l_neII ?_ | with_reducible refine l_eq rfl ?_ | with_reducible refine l_ne rfl ?_
  | with_reducible refine x_fld ?_ | with_reducible refine x_ret ?_ | with_reducible refine x_drop ?_ | with_reducible refine x_next ?_ | with_reducible refine x_tup ?_ | with_reducible refine x_lst ?_ | with_reducible refine x_f ?_ | with_reducible refine x_o ?_ | with_reducible refine x_n ?_
  | with_reducible refine x_bm ?_ | with_reducible refine x_bm0 ?_ | with_reducible refine x_m1 ?_ | with_reducible refine x_m0 ?_ | with_reducible refine x_isstr ?_ | with_reducible refine x_tystr ?_ | with_reducible refine x_sl ?_ | with_reducible refine x_part ?_ | with_reducible refine x_part' ?_ | with_reducible refine x_nopart ?_
  | with_reducible refine x_sfld ?_ | with_reducible refine x_if ?_ | with_reducible refine x_isty ?_ | with_reducible refine x_chain ?_ | with_reducible refine x_andV ?_ | with_reducible refine x_orV ?_ | with_reducible refine x_notV ?_ | with_reducible refine x_B ?_ | with_reducible refine x_and ?_ | with_reducible refine x_or ?_ | with_reducible refine x_not ?_ | with_reducible refine x_tru ?_ | with_reducible refine x_yes ?_
  | with_reducible refine x_un ?_ | with_reducible refine x_neg ?_ | with_reducible refine x_par ?_ | with_reducible refine x_par' ?_ | with_reducible refine x_retN ?_ | with_reducible refine x_brk ?_ | with_reducible refine x_cont ?_ | with_reducible refine x_rz ?_
  | with_reducible refine l_leS ?_ | with_reducible refine l_ltS ?_ | with_reducible refine l_inX ?_ | with_reducible refine l_niX ?_ | with_reducible refine l_inS ?_ | with_reducible refine l_niS ?_ | with_reducible refine l_count ?_ | with_reducible refine l_ord ?_ | with_reducible refine l_max ?_ | with_reducible refine l_min ?_ | with_reducible refine l_intI ?_ | with_reducible refine l_intB ?_ | with_reducible refine l_is ?_ | with_reducible refine l_isn ?_
  | with_reducible refine g_modNL (by decide) ?_ | with_reducible refine g_divNL (by decide) (by decide) ?_ | with_reducible refine l_modI (by decide) ?_ | with_reducible refine x_for ?_ | with_reducible refine x_lc ?_ | with_reducible refine x_ilist ?_ | with_reducible refine x_itup ?_ | with_reducible refine x_istr ?_ | with_reducible refine x_istr' ?_ | with_reducible refine x_irng1 ?_ | with_reducible refine x_irng2 ?_
  | (with_reducible refine x_get (by first | assumption | exact Hold.get0 (by assumption) | exact Hold.get1 (by assumption)) (by assumption) (by assumption) (by walk_at "fg") ?_)
  | (with_reducible refine x_ao (by first | assumption | exact Hold.get0 (by assumption) | exact Hold.get1 (by assumption)) (by kernel_rfl) ?_)
  | with_reducible refine x_ienum ?_ | with_reducible refine x_izip ?_ | with_reducible refine x_chain3 ?_
  | (with_reducible refine x_par2 ?_)
  | (with_reducible refine x_par3 ?_) | (with_reducible refine x_par3' ?_)))
/-- a reader as it lies: the signs begun, how many were lost -/
abbrev rdRaw (c : Ctx) (dx : Addr) (b : List Nat) (lost : Nat) : HO := .ins c.cReader dx (fsReader (.str (T b)) (.int lost))
abbrev rdO (c : Ctx) (dx : Addr) (r : Rdr) : HO := rdRaw c dx r.pre.text r.lost
/-- a list of things told is handed back, never to be written -/
abbrev RetToks (c : Ctx) (F : Hp) (L : List (Addr × HO)) (ts : List Tk) (Q : VK) : Prop := ∀ (r : Addr) (xs : List V) (F' H' : Hp), Same F F' → F' r = some (.lst xs) → DpAll c.K F' xs (ts.map Tk.data) → Hold F' L H' → Q (.ref r) H'
def sp_is_sign (c : Ctx) : Sp := fun vs H Q _ => ∃ n, vs = [.str (T [n])] ∧ Q (.bl (isSign n)) H
def okText : V → Bool
  | .str z => decide (z.length ≤ 4000) && z.cps.toList.all isSign
  | _ => false
/-- a text, or a thing that is none -/
def TextArg (c : Ctx) (H : Hp) (x : V) : Prop := (∃ l, x = .str (T l) ∧ l.length ≤ 1000000) ∨ ((∃ t, TyX c.K H x (.type t) ∧ kitB t "str" = some false) ∧ ∀ z, x ≠ .str z)
def sp_need_text (c : Ctx) : Sp := fun vs H Q E => ∃ x F L, vs = [x] ∧ TextArg c F x ∧ Hold F L H ∧
  (okText x = true → ∀ F' H', Same F F' → Hold F' L H' → Q .non H') ∧ (okText x = false → ∀ F' H', Same F F' → Hold F' L H' → E (.ref c.cBadText) none H')
def sp_Reader_init (c : Ctx) : Sp := fun vs H Q _ => ∃ a dx F L, vs = [.ref a] ∧ Hold F ((a, .ins c.cReader dx []) :: L) H ∧ ∀ H', Hold F ((a, rdO c dx Rdr.new) :: L) H' → Q .non H'
def sp_Reader_dropped (c : Ctx) : Sp := fun vs H Q _ => ∃ a dx b lost F L, vs = [.ref a] ∧ Hold F ((a, rdRaw c dx b lost) :: L) H ∧ Q (.int lost) H
def sp_Reader_left (c : Ctx) : Sp := fun vs H Q _ => ∃ a dx b lost F L, vs = [.ref a] ∧ Hold F ((a, rdRaw c dx b lost) :: L) H ∧ Q (.str (T b)) H
def sp_Reader_plain (c : Ctx) : Sp := fun vs H Q _ => ∃ a dx b lost n F L, vs = [.ref a, .str (T [n])] ∧ Hold F ((a, rdRaw c dx b lost) :: L) H ∧ RetToks c F ((a, rdRaw c dx (if n = 94 then [94] else b) lost) :: L) (plain n).2 Q
def sp_Reader_can_go_on (c : Ctx) : Sp := fun vs H Q _ => ∃ a dx p lost n F L, vs = [.ref a, .str (T [n])] ∧ Hold F ((a, rdRaw c dx (Pre.text p) lost) :: L) H ∧ p.Wf ∧ p ≠ .no ∧
  ∀ F' H', Same F F' → Hold F' ((a, rdRaw c dx p.text lost) :: L) H' → Q (.bl (p.step n).isSome) H'
def sp_Reader_whole (c : Ctx) : Sp := fun vs H Q _ => ∃ a dx p q ts lost n F L, vs = [.ref a] ∧ Hold F ((a, rdRaw c dx (Pre.text p ++ [n]) lost) :: L) H ∧ p.Wf ∧ p.step n = some (q, ts) ∧ RetToks c F ((a, rdRaw c dx q.text lost) :: L) ts Q
def sp_Reader_read (c : Ctx) : Sp := fun vs H Q _ => ∃ a dx r n F L, vs = [.ref a, .str (T [n])] ∧ Hold F ((a, rdO c dx r) :: L) H ∧ r.pre.Wf ∧ RetToks c F ((a, rdO c dx (r.read n).1) :: L) (r.read n).2 Q
def sp_Reader_feed (c : Ctx) : Sp := fun vs H Q E => ∃ a dx r x F L, vs = [.ref a, x] ∧ TextArg c F x ∧ Hold F ((a, rdO c dx r) :: L) H ∧ r.pre.Wf ∧
  (∀ l, x = .str (T l) → okText x = true → ∀ (p : Addr) xs F' H', Same F F' → DpAll c.K F' xs ((r.feed l).2.map Tk.data) → Hold F' ((p, .lst xs) :: (a, rdO c dx (r.feed l).1) :: L) H' → Q (.ref p) H') ∧
  (okText x = false → ∀ F' H', Same F F' → Hold F' ((a, rdO c dx r) :: L) H' → E (.ref c.cBadText) none H')
def sp_told (c : Ctx) : Sp := fun vs H Q E => ∃ x F L, vs = [x] ∧ TextArg c F x ∧ Hold F L H ∧
  (∀ l, x = .str (T l) → okText x = true → ∀ (p : Addr) xs F' H', Same F F' → DpAll c.K F' xs ((Rdr.new.feed l).2.map Tk.data) → Hold F' ((p, .lst xs) :: L) H' → Q (.ref p) H') ∧
  (okText x = false → ∀ F' H', Same F F' → Hold F' L H' → E (.ref c.cBadText) none H')
def t_is_sign (c : Ctx) (E : XK) : TS :=
  (tRet (tOrV (tOp (uEq c.K) (tVar 0) (tC (v_GAP c))) (tAndV (tChain uLe uLe (tC (.str ⟨#[32]⟩)) (tVar 0) (tC (.str ⟨#[126]⟩))) (tOp (uNe c.K) (tCB uOrd (tCons (tVar 0) tNil)) (tC (v_BARRED c))))))
abbrev N_is_sign : List Str := ["sign"]

def t_need_text (c : Ctx) (E : XK) : TS :=
  (tIfS (tOr (tNot (tB (tIsTy c.K (tVar 0) "str"))) (tOr (tTest (tOp uGt (tCB (uLen c.K) (tCons (tVar 0) tNil)) (tC (v_MOST_TEXT c)))) (tNot (tB (tCB (rAll c.K) (tCons (tLc (iStr (tVar 0)) (gName 1) tYes (tF (sp_is_sign c) E0 (tCons (tVar 1) tNil)) [1]) tNil)))))) (tRz c.cBadText E) tNext)
abbrev N_need_text : List Str := ["text", "sign"]

def t_Reader_init (c : Ctx) (E : XK) : TS :=
  (tSeq (sFld c.K (tVar 0) (tC (.str ⟨#[]⟩)) "begun")
  (sFld c.K (tVar 0) (tC (.int 0)) "lost"))
abbrev N_Reader_init : List Str := ["self"]

def t_Reader_dropped (c : Ctx) (E : XK) : TS :=
  (tRet (tFld c.K (tVar 0) "lost"))
abbrev N_Reader_dropped : List Str := ["self"]

def t_Reader_left (c : Ctx) (E : XK) : TS :=
  (tRet (tFld c.K (tVar 0) "begun"))
abbrev N_Reader_left : List Str := ["self"]

def t_Reader_plain (c : Ctx) (E : XK) : TS :=
  (tSeq (tIfS (tTest (tOp (uEq c.K) (tVar 1) (tC (.str ⟨#[94]⟩)))) (tSeq (sFld c.K (tVar 0) (tC (.str ⟨#[94]⟩)) "begun")
  (tRet (tLst tNil))) tNext)
  (tRet (tIf (tTest (tOp (uEq c.K) (tVar 1) (tC (v_GAP c)))) (tLst (tCons (tTup (tCons (tC (.str ⟨#[101, 110, 100]⟩)) tNil)) tNil)) (tLst (tCons (tTup (tCons (tC (.str ⟨#[115, 105, 103, 110]⟩)) (tCons (tVar 1) tNil))) tNil)))))
abbrev N_Reader_plain : List Str := ["self", "sign"]

def t_Reader_can_go_on (c : Ctx) (E : XK) : TS :=
  (tSeq (tIfS (tTest (tOp (uEq c.K) (tCB (uLen c.K) (tCons (tFld c.K (tVar 0) "begun") tNil)) (tC (.int 1)))) (tRet (tOp (uIn c.K) (tVar 1) (tOp (uAdd c.K) (tOp (uAdd c.K) (tC (v_SMALL c)) (tC (v_GREAT c))) (tC (.str ⟨#[94]⟩))))) tNext)
  (tSeq (tIfS (tTest (tOp (uEq c.K) (tCB (uLen c.K) (tCons (tFld c.K (tVar 0) "begun") tNil)) (tC (.int 2)))) (tRet (tOp (uEq c.K) (tVar 1) (tC (.str ⟨#[40]⟩)))) tNext)
  (tSeq (tAsg (tOp (uIx c.K) (tM1 u_split (tSl (uSl c.K) (tFld c.K (tVar 0) "begun") (tPart (tC (.int 3))) tNoPart) (tC (.str ⟨#[44]⟩))) (tUn (rU fun i => .int (-i)) (tC (.int 1)))) (gName 2))
  (tSeq (tIfS (tTest (tOp (uIn c.K) (tVar 1) (tC (v_FIGURES c)))) (tRet (tOp uLt (tCB (uLen c.K) (tCons (tVar 2) tNil)) (tC (v_MOST_FIGURES c)))) tNext)
  (tSeq (tIfS (tTest (tOp (uEq c.K) (tVar 1) (tC (.str ⟨#[44]⟩)))) (tRet (tAndV (tOp (uNe c.K) (tVar 2) (tC (.str ⟨#[]⟩))) (tOp uLt (tM1 u_count (tFld c.K (tVar 0) "begun") (tC (.str ⟨#[44]⟩))) (tOp uSub (tC (v_MOST_ARGUMENTS c)) (tC (.int 1)))))) tNext)
  (tRet (tAndV (tOp (uEq c.K) (tVar 1) (tC (.str ⟨#[41]⟩))) (tOrV (tOp (uNe c.K) (tVar 2) (tC (.str ⟨#[]⟩))) (tOp (uEq c.K) (tOp (uIx c.K) (tFld c.K (tVar 0) "begun") (tUn (rU fun i => .int (-i)) (tC (.int 1)))) (tC (.str ⟨#[40]⟩)))))))))))
abbrev N_Reader_can_go_on : List Str := ["self", "sign", "last"]

def t_Reader_whole (c : Ctx) (E : XK) : TS :=
  (tSeq (tAsg (tFld c.K (tVar 0) "begun") (gName 1))
  (tSeq (tIfS (tTest (tOp (uEq c.K) (tVar 1) (tC (.str ⟨#[94, 94]⟩)))) (tSeq (sFld c.K (tVar 0) (tC (.str ⟨#[]⟩)) "begun")
  (tRet (tLst (tCons (tTup (tCons (tC (.str ⟨#[115, 105, 103, 110]⟩)) (tCons (tC (.str ⟨#[94]⟩)) tNil))) tNil)))) tNext)
  (tSeq (tIfS (tAnd (tTest (tOp (uEq c.K) (tCB (uLen c.K) (tCons (tVar 1) tNil)) (tC (.int 2)))) (tTest (tOp (uIn c.K) (tOp (uIx c.K) (tVar 1) (tC (.int 1))) (tC (v_SMALL c))))) (tSeq (sFld c.K (tVar 0) (tC (.str ⟨#[]⟩)) "begun")
  (tRet (tLst (tCons (tTup (tCons (tC (.str ⟨#[100, 111]⟩)) (tCons (tOp (uIx c.K) (tVar 1) (tC (.int 1))) (tCons (tTup tNil) tNil)))) tNil)))) tNext)
  (tSeq (tIfS (tTest (tOp (uNe c.K) (tOp (uIx c.K) (tVar 1) (tUn (rU fun i => .int (-i)) (tC (.int 1)))) (tC (.str ⟨#[41]⟩)))) (tRet (tLst tNil)) tNext)
  (tSeq (sFld c.K (tVar 0) (tC (.str ⟨#[]⟩)) "begun")
  (tSeq (tAsg (tSl (uSl c.K) (tVar 1) (tPart (tC (.int 3))) (tPart (tUn (rU fun i => .int (-i)) (tC (.int 1))))) (gName 2))
  (tRet (tLst (tCons (tTup (tCons (tC (.str ⟨#[100, 111]⟩)) (tCons (tOp (uIx c.K) (tVar 1) (tC (.int 1))) (tCons (tIf (tTest (tOp (uNe c.K) (tVar 2) (tC (.str ⟨#[]⟩)))) (tCB (uTuple c.K) (tCons (tLc (iList c.K (tM1 u_split (tVar 2) (tC (.str ⟨#[44]⟩)))) (gName 3) tYes (tCB uInt (tCons (tVar 3) tNil)) [3]) tNil)) (tTup tNil)) tNil)))) tNil)))))))))
abbrev N_Reader_whole : List Str := ["self", "word", "rest", "one"]

def t_Reader_read (c : Ctx) (E : XK) : TS :=
  (tSeq (tIfS (tTest (tOp (uEq c.K) (tFld c.K (tVar 0) "begun") (tC (.str ⟨#[]⟩)))) (tRet (tO c.cReader "plain" (sp_Reader_plain c) E0 (tVar 0) (tCons (tVar 1) tNil))) tNext)
  (tSeq (tIfS (tB (tO c.cReader "can_go_on" (sp_Reader_can_go_on c) E0 (tVar 0) (tCons (tVar 1) tNil))) (tSeq (sFld c.K (tVar 0) (tOp (uAdd c.K) (tFld c.K (tVar 0) "begun") (tVar 1)) "begun")
  (tRet (tO c.cReader "whole" (sp_Reader_whole c) E0 (tVar 0) tNil))) tNext)
  (tSeq (sFld c.K (tVar 0) (tOp (uAdd c.K) (tFld c.K (tVar 0) "lost") (tCB (uLen c.K) (tCons (tFld c.K (tVar 0) "begun") tNil))) "lost")
  (tSeq (sFld c.K (tVar 0) (tC (.str ⟨#[]⟩)) "begun")
  (tRet (tO c.cReader "plain" (sp_Reader_plain c) E0 (tVar 0) (tCons (tVar 1) tNil)))))))
abbrev N_Reader_read : List Str := ["self", "sign"]

def t_Reader_feed (c : Ctx) (E : XK) : TS :=
  (tSeq (tDrop (tF (sp_need_text c) E (tCons (tVar 1) tNil)))
  (tSeq (tAsg (tLst tNil) (gName 2))
  (tSeq (tFor (iStr (tVar 1)) (gName 3) (tDrop (tBM c.K "list" rExtend (tVar 2) (tCons (tO c.cReader "read" (sp_Reader_read c) E0 (tVar 0) (tCons (tVar 3) tNil)) tNil))))
  (tRet (tVar 2)))))
abbrev N_Reader_feed : List Str := ["self", "text", "found", "sign"]

def t_told (c : Ctx) (E : XK) : TS :=
  (tRet (tO c.cReader "feed" (sp_Reader_feed c) E (tN c.cReader (sp_Reader_init c) E0 tNil) (tCons (tVar 0) tNil)))
abbrev N_told : List Str := ["text"]

section
variable {c : Ctx}
theorem rd_is_sign : RD N_is_sign (t_is_sign c) (sp_is_sign c) := by
  rintro vs H Q E ⟨n, rfl, k⟩
  unfold t_is_sign
  walk_at "r"
  refine wD (fun h => ?_) (fun h => ?_)
  · have e : n = 10 := one1.mp h
    subst e; exact k
  · have e : n ≠ 10 := fun z => h (one1.mpr z)
    walk_at "r"
    have e1 : (!decide ((T [n]).cps.toList < ([32] : List Nat))) = decide (32 ≤ n) := by
      rw [T_list, lt1, Bool.eq_iff_iff]; simp
    have e2 : (!decide (([126] : List Nat) < (T [n]).cps.toList)) = decide (n ≤ 126) := by
      rw [T_list, lt1, Bool.eq_iff_iff]; simp
    have ek : ∀ b1 b2 b3 : Bool, (n == 10) = false := fun _ _ _ => by simpa using e
    refine w2 (fun h1 => ?_) (fun h1 => ?_)
    · walk_at "r"
      refine w2 (fun h2 => ?_) (fun h2 => ?_)
      · walk_at "r"
        have z : isSign n = !decide (((n : Nat) : Int) = 37) := by
          have a1 : decide (32 ≤ n) = true := e1.symm.trans h1
          have a2 : decide (n ≤ 126) = true := e2.symm.trans h2
          have a3 : decide (((n : Nat) : Int) = 37) = (n == 37) := by
            rw [Bool.eq_iff_iff]; simp; omega
          rw [a3]
          unfold isSign
          rw [a1, a2, ek true true true]
          simp [bne]
        rw [z] at k
        exact k
      · have a2 : decide (n ≤ 126) = false := e2.symm.trans h2
        have z : isSign n = false := by unfold isSign; rw [a2, ek true true true]; simp
        rw [z] at k; exact k
    · have a1 : decide (32 ≤ n) = false := e1.symm.trans h1
      walk_at "r"
      refine wF rfl ?_
      have z : isSign n = false := by unfold isSign; rw [a1, ek true true true]; simp
      rw [z] at k; exact k
theorem rd_Reader_init (R : FReader c) : RD N_Reader_init (t_Reader_init c) (sp_Reader_init c) := by
  obtain ⟨cl, n1, n2⟩ := R
  rintro vs H Q E ⟨a, dx, F, L, rfl, W, k⟩
  unfold t_Reader_init
  walk_at "r"
  refine x_put0 W cl n1 (by show 0 < 1000; decide) rfl fun H1 W1 => ?_
  walk_at "r"
  exact x_put0 W1 cl n2 (by show 1 < 1000; decide) (by kernel_rfl) fun H2 W2 => k _ W2
theorem rd_Reader_dropped (R : FReader c) : RD N_Reader_dropped (t_Reader_dropped c) (sp_Reader_dropped c) := by
  obtain ⟨cl, n1, n2⟩ := R
  rintro vs H Q E ⟨a, dx, b, lost, F, L, rfl, W, k⟩
  unfold t_Reader_dropped
  walk_at "r"
  exact k
theorem rd_Reader_left (R : FReader c) : RD N_Reader_left (t_Reader_left c) (sp_Reader_left c) := by
  obtain ⟨cl, n1, n2⟩ := R
  rintro vs H Q E ⟨a, dx, b, lost, F, L, rfl, W, k⟩
  unfold t_Reader_left
  walk_at "r"
  exact k
theorem rd_Reader_plain (R : FReader c) : RD N_Reader_plain (t_Reader_plain c) (sp_Reader_plain c) := by
  obtain ⟨cl, n1, n2⟩ := R
  rintro vs H Q E ⟨a, dx, b, lost, n, F, L, rfl, W, k⟩
  unfold t_Reader_plain
  walk_at "r"
  refine wD (fun h => ?_) (fun h => ?_)
  · have e : n = 94 := one1.mp h
    walk_at "r"
    refine x_put0 W cl n1 fsReader_len fsReader_p0 fun H1 W1 => ?_
    walk_at "r"
    refine n_lstF W1 (sz rfl) fun p F' H' s h' W' => ?_
    subst e
    exact k p [] F' H' s h' .nil W'
  · have e : n ≠ 94 := fun z => h (one1.mpr z)
    rw [if_neg e] at k
    walk_at "r"
    refine wD (fun h1 => ?_) (fun h1 => ?_)
    · have e1 : n = 10 := one1.mp h1
      subst e1
      walk_at "r"
      refine n_tupF W (sz rfl) fun p1 F1 H1 s1 h1 W1 => ?_
      refine n_lstF W1 (sz rfl) fun p F' H' s h' W' => ?_
      refine k p _ F' H' (s1.trans s) h' (.cons (.tup (st_of (s _ _ h1)) (.cons (.str _) .nil)) .nil) W'
    · have e1 : n ≠ 10 := fun z => h1 (one1.mpr z)
      walk_at "r"
      refine n_tupF W (sz rfl) fun p1 F1 H1 s1 h1 W1 => ?_
      refine n_lstF W1 (sz rfl) fun p F' H' s h' W' => ?_
      unfold plain at k
      rw [if_neg e, if_neg e1] at k
      refine k p _ F' H' (s1.trans s) h' (.cons (.tup (st_of (s _ _ h1)) (.cons (.str _) (.cons (.str _) .nil))) .nil) W'
theorem rd_Reader_can_go_on (R : FReader c) : RD N_Reader_can_go_on (t_Reader_can_go_on c) (sp_Reader_can_go_on c) := by
  obtain ⟨cl, n1, n2⟩ := R
  rintro vs H Q E ⟨a, dx, p, lost, n, F, L, rfl, W, wf, hne, k⟩
  have hlen := text_len wf
  unfold t_Reader_can_go_on
  walk_at "r"
  refine l_lenX (by omega) ?_
  walk_at "r"
  cases p with
  | no => exact absurd rfl hne
  | hat =>
    refine wT rfl ?_
    walk_at "r"
    refine l_addX (by decide) ?_
    walk_at "r"
    refine l_addX (by decide) ?_
    walk_at "r"
    have e : decide (n ∈ ([97, 98, 99, 100, 101, 102, 103, 104, 105, 106, 107, 108, 109, 110, 111, 112, 113, 114, 115, 116, 117, 118, 119, 120, 121, 122] ++ [65, 66, 67, 68, 69, 70, 71, 72, 73, 74, 75, 76, 77, 78, 79, 80, 81, 82, 83, 84, 85, 86, 87, 88, 89, 90] ++ [94] : List Nat)) = (Pre.hat.step n).isSome := by
      unfold Pre.step
      dsimp only
      rw [Bool.eq_iff_iff]
      simp only [decide_eq_true_eq, List.cons_append, List.nil_append, List.mem_cons, List.not_mem_nil, or_false]
      by_cases h1 : n = 94
      · subst h1; simp
      · rw [if_neg h1]
        by_cases h2 : isSmall n = true
        · rw [if_pos h2]
          unfold isSmall at h2
          simp at h2
          simp
          omega
        · rw [if_neg h2]
          by_cases h3 : isGreat n = true
          · rw [if_pos h3]
            unfold isGreat at h3
            simp at h3
            simp
            omega
          · rw [if_neg h3]
            unfold isSmall at h2
            unfold isGreat at h3
            simp at h2 h3
            simp
            omega
    rw [e]
    exact k F H (Same.refl F) W
  | cap g =>
    refine wF rfl ?_
    walk_at "r"
    refine l_lenX (by omega) ?_
    walk_at "r"
    refine wT rfl ?_
    walk_at "r"
    have e : decide (([n] : List Nat) = [40]) = ((Pre.cap g).step n).isSome := by
      unfold Pre.step
      dsimp only
      by_cases h1 : n = 40
      · subst h1; simp
      · rw [if_neg h1]; simp [h1]
    rw [e]
    exact k F H (Same.refl F) W
  | op g ps la =>
    obtain ⟨w1, w2', w3, w4⟩ := id wf
    have hl3 : 3 ≤ (Pre.op g ps la).text.length := by simp [Pre.text]
    refine wF (decide_eq_false (by omega)) ?_
    walk_at "r"
    refine l_lenX (by omega) ?_
    walk_at "r"
    refine wF (decide_eq_false (by omega)) ?_
    walk_at "r"
    refine l_slX (by omega) ?_
    walk_at "r"
    have e1 : cutL (Pre.op g ps la).text (some 3) none = TL.joinL [44] (ps ++ [la]) := by
      rw [joinL_parts]
      exact cutL_from (Pre.op g ps la).text 3
    rw [e1]
    have hjl : (TL.joinL [44] (ps ++ [la])).length ≤ 100 := by
      rw [joinL_parts, List.length_append]
      have := parts_len w3
      have := w4.1
      omega
    refine l_split W (by decide) (by omega) (by simp) (fun q hq => ?_) fun r1 F1 H1 s1 h1 W1 => ?_
    · rcases List.mem_append.mp hq with hq | hq
      · exact fig_free (w3 q hq).2
      · rw [List.mem_singleton.mp hq]; exact fig_free w4
    walk_at "r"
    rw [List.map_append, List.map_cons, List.map_nil] at h1
    refine l_ixL (sq_of (W1.old _ _ h1)) atI_last ?_
    walk_at "r"
    rw [isFig_mem']
    refine w2 (fun hf => ?_) (fun hf => ?_)
    · walk_at "r"
      refine l_lenX (by have := w4.1; omega) ?_
      walk_at "r"
      have e : decide (la.length < 4) = ((Pre.op g ps la).step n).isSome := by
        unfold Pre.step
        dsimp only
        rw [if_pos hf]
        by_cases h : la.length < 4
        · rw [if_pos h]; simp; first | done | omega
        · rw [if_neg h]; simp; first | done | omega
      rw [e]
      exact k F1 H1 s1 W1
    · have hf' : ¬ isFig n = true := by rw [hf]; decide
      walk_at "r"
      refine wD (fun hc => ?_) (fun hc => ?_)
      · have hn : n = 44 := one1.mp hc
        walk_at "r"
        have e : ∀ b : Bool, b = decide (la ≠ [] ∧ ps.length < 3) → b = ((Pre.op g ps la).step n).isSome := by
          intro b hb
          unfold Pre.step
          dsimp only
          rw [if_neg hf', if_pos hn, hb]
          by_cases h : la ≠ [] ∧ ps.length < 3
          · rw [if_pos h, decide_eq_true h]; rfl
          · rw [if_neg h, decide_eq_false h]; rfl
        refine wN (fun h => ?_) (fun h => ?_)
        · walk_at "r"
          have ec : cnt 44 (Pre.op g ps la).text = ps.length := by
            show cnt 44 ([94, g, 40] ++ (partsText ps ++ la)) = _
            rw [cnt_append, cnt_append, cnt_parts w3, cnt_none 44 la (fig_free w4)]
            have : cnt 44 [94, g, 40] = 0 := cnt_none 44 _ (by
              unfold isGreat at w1
              simp at w1
              simp; omega)
            rw [this]; omega
          rw [ec]
          rw [e (decide ((ps.length : Int) < 4 - 1)) (by rw [Bool.eq_iff_iff]; simp [h]; omega)]
          exact k F1 H1 s1 W1
        · have z := e false (by simp [h])
          rw [z]
          exact k F1 H1 s1 W1
      · have hn : n ≠ 44 := fun z => hc (one1.mpr z)
        walk_at "r"
        have e : ∀ b : Bool, b = decide (n = 41 ∧ (la ≠ [] ∨ ps = [])) → b = ((Pre.op g ps la).step n).isSome := by
          intro b hb
          unfold Pre.step
          dsimp only
          rw [if_neg hf', if_neg hn, hb]
          by_cases h : n = 41 ∧ (la ≠ [] ∨ ps = [])
          · rw [if_pos h, decide_eq_true h]; rfl
          · rw [if_neg h, decide_eq_false h]; rfl
        refine wD (fun h => ?_) (fun h => ?_)
        · have h41 : n = 41 := one1.mp h
          walk_at "r"
          refine wN (fun h => ?_) (fun h => ?_)
          · rw [e true (by simp [h41, h])]
            exact k F1 H1 s1 W1
          · walk_at "r"
            have hla : la = [] := h
            cases ps with
            | nil =>
              refine l_ixX (n := 40) (by omega) (by rw [hla]; show atI ([94, g] ++ [40]) (-1) = _; exact atI_last) ?_
              walk_at "r"
              have z := e true (by simp [h41])
              have z2 : decide (([40] : List Nat) = [40]) = true := rfl
              rw [z2, z]
              exact k F1 H1 s1 W1
            | cons q qs =>
              obtain ⟨ini, he⟩ : ∃ ini, (Pre.op g (q :: qs) la).text = ini ++ [44] := by
                rw [hla]
                have : ∀ (ps : List (List Nat)), ps ≠ [] → ∃ i, partsText ps = i ++ [44] := by
                  intro ps hp
                  obtain ⟨pi, pl, rfl⟩ : ∃ pi pl, ps = pi ++ [pl] := ⟨ps.dropLast, ps.getLast hp, (List.dropLast_concat_getLast hp).symm⟩
                  exact ⟨partsText pi ++ pl, by simp [partsText]⟩
                obtain ⟨i, hi⟩ := this (q :: qs) (by simp)
                exact ⟨[94, g, 40] ++ i, by simp [Pre.text, hi]⟩
              refine l_ixX (n := 44) (by omega) (by rw [he]; exact atI_last) ?_
              walk_at "r"
              have z := e false (by simp [h41, hla])
              have z2 : decide (([44] : List Nat) = [40]) = false := by decide
              rw [z2, z]
              exact k F1 H1 s1 W1
        · have z := e false (by
            have : n ≠ 41 := fun z => h (one1.mpr z)
            simp [this])
          rw [z]
          exact k F1 H1 s1 W1
theorem rd_Reader_whole (R : FReader c) : RD N_Reader_whole (t_Reader_whole c) (sp_Reader_whole c) := by
  obtain ⟨cl, n1, n2⟩ := R
  rintro vs H Q E ⟨a, dx, p, q, ts, lost, n, F, L, rfl, W, wf, hs, k⟩
  have hlen := text_len wf
  have hl1 : (p.text ++ [n]).length = p.text.length + 1 := by simp
  unfold t_Reader_whole
  walk_at "r"
  rcases step_cases wf hs with ⟨rfl, rfl, rfl, rfl⟩ | ⟨rfl, h94, hsm, rfl, rfl⟩ | ⟨rfl, hq, h41, h2, h3, h4⟩ | ⟨g, ps, la, rfl, rfl, hla, rfl, rfl⟩
  · refine wT (decide_eq_true rfl) ?_
    walk_at "r"
    refine x_put0 W cl n1 fsReader_len fsReader_p0 fun H1 W1 => ?_
    walk_at "r"
    refine n_tupF W1 (sz rfl) fun p1 F1 H1 s1 h1 W1 => ?_
    refine n_lstF W1 (sz rfl) fun p F' H' s h' W' => ?_
    exact k p _ F' H' (s1.trans s) h' (.cons (.tup (st_of (s _ _ h1)) (.cons (.str _) (.cons (.str _) .nil))) .nil) W'
  · refine wF (decide_eq_false (by simp [Pre.text, h94])) ?_
    walk_at "r"
    refine l_lenX (by omega) ?_
    walk_at "r"
    refine wT (decide_eq_true (by rw [hl1]; rfl)) ?_
    walk_at "r"
    refine l_ixX (n := n) (i := 1) (by omega) rfl ?_
    walk_at "r"
    rw [isSmall_mem']
    refine wT hsm ?_
    walk_at "r"
    refine x_put0 W cl n1 fsReader_len fsReader_p0 fun H1 W1 => ?_
    walk_at "r"
    refine l_ixX (n := n) (i := 1) (by omega) rfl ?_
    walk_at "r"
    refine n_tupF W1 (sz rfl) fun p0 F0 H0 s0 h0 W0 => ?_
    walk_at "r"
    refine n_tupF W0 (sz rfl) fun p1 F1 H1 s1 h1 W1 => ?_
    refine n_lstF W1 (sz rfl) fun p F' H' s h' W' => ?_
    exact k p _ F' H' ((s0.trans s1).trans s) h' (.cons (.tup (st_of (s _ _ h1)) (.cons (.str _) (.cons (.str _) (.cons (.tup (st_of ((s1.trans s) _ _ h0)) .nil) .nil)))) .nil) W'
  · refine wF (decide_eq_false h2) ?_
    walk_at "r"
    refine l_lenX (by omega) ?_
    walk_at "r"
    have hrest : ∀ {nx bk ct : L2.St → Hp → Prop} {u : TS}, tSeq (tIfS (tTest (tOp (uNe c.K) (tOp (uIx c.K) (tVar 1) (tUn (rU fun i => .int (-i)) (tC (.int 1)))) (tC (.str ⟨#[41]⟩)))) (tRet (tLst tNil)) tNext) u ⟨nx, Q, bk, ct⟩ ((L2.start N_Reader_whole [V.ref a]).set 1 (some (.str (T (p.text ++ [n]))))) H := by
      intro nx bk ct u
      walk_at "r"
      refine l_ixX (by omega) (atI_last (v := n)) ?_
      walk_at "r"
      refine wT (by simp [h41]) ?_
      walk_at "r"
      refine n_lstF W (sz rfl) fun p F' H' s h' W' => ?_
      rw [hq] at k
      exact k p [] F' H' s h' .nil W'
    refine wD (fun z => ?_) (fun z => ?_)
    · have z1 : p.text.length = 1 := by rw [hl1] at z; omega
      walk_at "r"
      refine l_ixX (n := n) (i := 1) (by omega) (by show atI _ ((1 : Nat) : Int) = _; exact atI_nat (by rw [List.getElem?_append_right (by omega), z1]; rfl)) ?_
      walk_at "r"
      rw [isSmall_mem']
      refine wF (by simpa [z1] using h3) ?_
      with_reducible refine x_next ?_
      exact hrest
    · with_reducible refine wF rfl ?_
      with_reducible refine x_next ?_
      exact hrest
  · obtain ⟨w1, w2', w3, w4⟩ := id wf
    have hl3 : 3 ≤ (Pre.op g ps la).text.length := by simp [Pre.text]
    refine wF (decide_eq_false (fun e => by have := congrArg List.length e; simp [Pre.text] at this)) ?_
    walk_at "r"
    refine l_lenX (by omega) ?_
    walk_at "r"
    refine wF (decide_eq_false (by omega)) ?_
    walk_at "r"
    refine wF rfl ?_
    walk_at "r"
    refine l_ixX (by omega) (atI_last (v := 41)) ?_
    walk_at "r"
    refine wF rfl ?_
    walk_at "r"
    refine x_put0 W cl n1 fsReader_len fsReader_p0 fun H1 W1 => ?_
    walk_at "r"
    refine l_slX (by omega) ?_
    have e1 : cutL ((Pre.op g ps la).text ++ [41]) (some 3) (some (-1)) = TL.joinL [44] (ps ++ [la]) := by
      rw [joinL_parts]
      refine (cutL_last _ 3).trans ?_
      rw [hl1]
      show List.take _ (partsText ps ++ la ++ [41]) = _
      have : (Pre.op g ps la).text.length + 1 - 1 - 3 = (partsText ps ++ la).length := by simp [Pre.text]
      rw [this, List.take_left]
    rw [e1]
    walk_at "r"
    have hjl : (TL.joinL [44] (ps ++ [la])).length ≤ 100 := by
      rw [joinL_parts, List.length_append]
      have := parts_len w3
      have := w4.1
      omega
    refine l_ixX (n := g) (i := 1) (by omega) (by show atI _ ((1 : Nat) : Int) = _; exact atI_nat rfl) ?_
    walk_at "r"
    have hempty : TL.joinL [44] (ps ++ [la]) = [] ↔ ps = [] ∧ la = [] := by
      rw [joinL_parts]
      cases ps <;> simp [partsText]
    refine wN (fun hne => ?_) (fun he => ?_)
    · have hne2 : ¬ (ps = [] ∧ la = []) := fun z => hne (hempty.mpr z)
      rw [if_neg hne2] at k
      walk_at "r"
      refine l_split W1 (by decide) (by omega) (by simp) (fun q hq => ?_) fun r1 F1 H1 s1 h1 W1 => ?_
      · rcases List.mem_append.mp hq with hq | hq
        · exact fig_free (w3 q hq).2
        · rw [List.mem_singleton.mp hq]; exact fig_free w4
      have hparts : ∀ q ∈ ps ++ [la], q ≠ [] ∧ figsOk q := fun q hq => by
        rcases List.mem_append.mp hq with hq | hq
        · exact w3 q hq
        · rw [List.mem_singleton.mp hq]
          refine ⟨fun z => ?_, w4⟩
          rcases hla with h | h
          · exact h z
          · exact hne2 ⟨h, z⟩
      have hplen : (ps ++ [la]).length ≤ 4 := by rw [List.length_append]; simp; omega
      refine x_ilist' (sq_of (W1.old _ _ h1)) ?_
      refine x_lcOk (F := F1) (ItOk.list (sq_of h1)) W1 (by simp; omega) (fun i v _ => v = .int ((NumText.digitsVal ((ps ++ [la]).getD i []) : Nat) : Int)) (fun _ _ _ _ _ h => h) (fun d i F' H' QQ hi s W' kk => ?_) gm_name (fun D ys F' H' s hlen' hv W' => ?_)
      · have hi' : i < (ps ++ [la]).length := by simpa using hi
        have hg : ((ps ++ [la]).map fun p => V.str (T p)).getD i .non = .str (T ((ps ++ [la]).getD i [])) := by
          rw [List.getD_eq_getElem?_getD, List.getD_eq_getElem?_getD, List.getElem?_map, List.getElem?_eq_getElem hi']; rfl
        have hm : (ps ++ [la]).getD i [] ∈ ps ++ [la] := by
          rw [List.getD_eq_getElem?_getD, List.getElem?_eq_getElem hi']; exact List.getElem_mem hi'
        obtain ⟨o1, o2⟩ := hparts _ hm
        show (fun σ2 H2 => wipe σ2 [3] = _ ∧ _) (List.set _ 3 (some (((ps ++ [la]).map fun p => V.str (T p)).getD i .non))) H'
        rw [hg]
        refine ⟨wipe1, ?_⟩
        walk_at "r"
        refine l_intS (i := ((NumText.digitsVal ((ps ++ [la]).getD i []) : Nat) : Int)) ?_ ?_ (kk _ F' H' (Same.refl F') W' rfl)
        · have z := intText_digits (x := T ((ps ++ [la]).getD i [])) (by rw [T_list]; exact figs_all o2) (by rw [T_list]; exact o1) (by rw [T_len]; have := o2.1; omega)
          rw [T_list] at z; exact z
        · rw [T_len]; have := o2.1; omega
      · walk_at "r"
        have ey : ys = ((ps ++ [la]).map NumText.digitsVal).map fun (n : Nat) => V.int n := by
          refine List.ext_getElem? fun j => ?_
          by_cases hj : j < (ps ++ [la]).length
          · have a1 := hv j (by simpa using hj)
            have hjy : j < ys.length := by rw [hlen']; simpa using hj
            rw [List.getD_eq_getElem?_getD, List.getElem?_eq_getElem hjy] at a1
            rw [List.getElem?_eq_getElem hjy, List.getElem?_map, List.getElem?_map, List.getElem?_eq_getElem hj]
            rw [List.getD_eq_getElem?_getD, List.getElem?_eq_getElem hj] at a1
            exact congrArg some a1
          · rw [List.getElem?_eq_none (by rw [hlen']; simpa using hj), List.getElem?_eq_none (by simpa using hj)]
        refine n_tupleF W'.drop (sq_of W'.get0) fun r2 F2 H2 s2 h2 W2 => ?_
        walk_at "r"
        refine n_tupF W2 (sz rfl) fun p3 F3 H3 s3 h3 W3 => ?_
        refine n_lstF W3 (sz rfl) fun p4 F4 H4 s4 h4 W4 => ?_
        refine k p4 _ F4 H4 (((s1.trans s).trans s2).trans (s3.trans s4)) h4 (.cons (.tup (st_of (s4 _ _ h3)) (.cons (.str _) (.cons (.str _) (.cons (.tup (st_of (s4 _ _ (s3 _ _ h2))) ?_) .nil)))) .nil) W4
        rw [ey]
        exact dp_ints _
    · have he2 := hempty.mp he
      rw [if_pos he2] at k
      walk_at "r"
      refine n_tupF W1 (sz rfl) fun p0 F0 H0 s0 h0 W0 => ?_
      walk_at "r"
      refine n_tupF W0 (sz rfl) fun p1 F1 H1 s1 h1 W1 => ?_
      refine n_lstF W1 (sz rfl) fun p F' H' s h' W' => ?_
      exact k p _ F' H' ((s0.trans s1).trans s) h' (.cons (.tup (st_of (s _ _ h1)) (.cons (.str _) (.cons (.str _) (.cons (.tup (st_of ((s1.trans s) _ _ h0)) .nil) .nil)))) .nil) W'
theorem rd_Reader_read (R : FReader c) : RD N_Reader_read (t_Reader_read c) (sp_Reader_read c) := by
  obtain ⟨cl, n1, n2⟩ := R
  rintro vs H Q E ⟨a, dx, r, n, F, L, rfl, W, wf, k⟩
  have hlen := text_len wf
  unfold t_Reader_read
  walk_at "r"
  refine wD (fun h => ?_) (fun h => ?_)
  · have hp : r.pre = .no := text_no.mp h
    have e : r.read n = (⟨(plain n).1, r.lost⟩, (plain n).2) := by unfold Rdr.read; rw [if_pos hp]
    rw [e] at k
    walk_at "r"
    refine ⟨a, dx, _, _, n, F, L, rfl, W, fun r1 xs F' H' s h1 h2 W' => k r1 xs F' H' s h1 h2 ?_⟩
    have e2 : (if n = 94 then [94] else r.pre.text) = (plain n).1.text := by
      unfold plain
      by_cases h94 : n = 94
      · rw [if_pos h94, if_pos h94]; rfl
      · rw [if_neg h94, if_neg h94, hp]; split <;> rfl
    rw [e2] at W'
    exact W'
  · have hp : r.pre ≠ .no := fun z => h (text_no.mpr z)
    walk_at "r"
    refine ⟨a, dx, r.pre, _, n, F, L, rfl, W, wf, hp, fun F1 H1 s1 W1 => ?_⟩
    walk_at "r"
    cases hst : r.pre.step n with
    | some qt =>
      obtain ⟨q, ts⟩ := qt
      have e : r.read n = (⟨q, r.lost⟩, ts) := by unfold Rdr.read; rw [if_neg hp, hst]
      rw [e] at k
      refine wT rfl ?_
      walk_at "r"
      refine l_addX (by simp; omega) ?_
      walk_at "r"
      refine x_put0 W1 cl n1 fsReader_len fsReader_p0 fun H2 W2 => ?_
      walk_at "r"
      exact ⟨a, dx, r.pre, q, ts, _, n, F1, L, rfl, W2, wf, hst, fun r1 xs F' H' s h1 h2 W' => k r1 xs F' H' (s1.trans s) h1 h2 W'⟩
    | none =>
      have e : r.read n = (⟨(plain n).1, r.lost + r.pre.text.length⟩, (plain n).2) := by unfold Rdr.read; rw [if_neg hp, hst]
      rw [e] at k
      refine wF rfl ?_
      walk_at "r"
      refine l_lenX (by omega) ?_
      walk_at "r"
      refine x_put0 W1 cl n2 fsReader_len fsReader_p1 fun H2 W2 => ?_
      walk_at "r"
      refine x_put0 W2 cl n1 fsReader_len fsReader_p0 fun H3 W3 => ?_
      walk_at "r"
      refine ⟨a, dx, [], _, n, F1, L, rfl, W3, fun r1 xs F' H' s h1 h2 W' => k r1 xs F' H' (s1.trans s) h1 h2 ?_⟩
      have e2 : (if n = 94 then [94] else ([] : List Nat)) = (plain n).1.text := by
        unfold plain
        by_cases h94 : n = 94
        · rw [if_pos h94, if_pos h94]; rfl
        · rw [if_neg h94, if_neg h94]; split <;> rfl
      rw [e2] at W'
      exact W'
theorem okText_T (l : List Nat) : okText (.str (T l)) = (decide (l.length ≤ 4000) && l.all isSign) := by
  show (decide ((T l).length ≤ 4000) && (T l).cps.toList.all isSign) = _
  rw [T_len, T_list]
theorem ty_str {K : PySem.W.Frag} {H : Hp} (z : Str) : TyX K H (.str z) (.type "str") := .base (.str z)
theorem rd_need_text : RD N_need_text (t_need_text c) (sp_need_text c) := by
  rintro vs H Q E ⟨x, F, L, rfl, ta, W, k1, k2⟩
  unfold t_need_text
  walk_at "r"
  rcases ta with ⟨l, rfl, hl⟩ | ⟨⟨t, ht, hk⟩, hx⟩
  · refine l_isTy (ty_str _) (by decide +kernel : kitB "str" "str" = some true) ?_
    walk_at "r"
    refine wF rfl ?_
    walk_at "r"
    refine l_lenX hl ?_
    walk_at "r"
    rw [okText_T] at k1 k2
    refine wD (fun h => ?_) (fun h => ?_)
    · have hn : ¬ l.length ≤ 4000 := by omega
      refine wT rfl ?_
      walk_at "r"
      exact k2 (by rw [decide_eq_false hn]; rfl) F H (Same.refl F) W
    · have hn : l.length ≤ 4000 := by omega
      rw [decide_eq_true hn, Bool.true_and] at k1 k2
      walk_at "r"
      refine x_lcOk (F := F) (ItOk.str l) W (by omega) (fun i v _ => v = .bl (isSign (l.getD i 0))) (fun _ _ _ _ _ h => h) (fun d i F' H' QQ hi s W' kk => ?_) gm_name (fun D ys F' H' s hlen' hv W' => ?_)
      · refine ⟨wipe1, ?_⟩
        walk_at "r"
        exact ⟨_, rfl, kk _ F' H' (Same.refl F') W' rfl⟩
      · walk_at "r"
        have ey : ys = (l.map isSign).map V.bl := by
          refine List.ext_getElem? fun j => ?_
          by_cases hj : j < l.length
          · have a1 := hv j hj
            have hjy : j < ys.length := by rw [hlen']; exact hj
            rw [List.getD_eq_getElem?_getD, List.getElem?_eq_getElem hjy, List.getD_eq_getElem?_getD, List.getElem?_eq_getElem hj] at a1
            rw [List.getElem?_eq_getElem hjy, List.getElem?_map, List.getElem?_map, List.getElem?_eq_getElem hj]
            exact congrArg some a1
          · rw [List.getElem?_eq_none (by omega), List.getElem?_eq_none (by simpa using hj)]
        rw [ey] at W'
        refine ⟨D, l.map isSign, rfl, sq_of W'.get0, ?_⟩
        walk_at "r"
        have e : (l.map isSign).all id = l.all isSign := by rw [List.all_map]; rfl
        rw [e]
        cases hall : l.all isSign with
        | true =>
          refine wF rfl ?_
          walk_at "r"
          exact k1 hall F' H' s W'.drop
        | false =>
          refine wT rfl ?_
          walk_at "r"
          exact k2 hall F' H' s W'.drop
  · refine l_isTy (tyX_gr W.gr ht) hk ?_
    walk_at "r"
    refine wT rfl ?_
    refine wT rfl ?_
    walk_at "r"
    refine k2 ?_ F H (Same.refl F) W
    cases x with
    | str z => exact absurd rfl (hx z)
    | _ => rfl
theorem TextArg.gr {c : Ctx} {F F' : Hp} {x : V} (g : Gr F F') (h : TextArg c F x) : TextArg c F' x := by
  rcases h with h | ⟨⟨t, ht, hk⟩, hx⟩
  · exact .inl h
  · exact .inr ⟨⟨t, tyX_gr g ht, hk⟩, hx⟩
theorem okText_str {x : V} (h : okText x = true) : ∃ l, x = .str (T l) ∧ l.length ≤ 4000 := by
  cases x with
  | str z =>
    refine ⟨z.cps.toList, by rw [← Str_T], ?_⟩
    unfold okText at h
    simp only [Bool.and_eq_true, decide_eq_true_eq] at h
    have := h.1
    rw [Str_T z, T_len] at this
    exact this
  | _ => cases h
theorem rd_Reader_feed (R : FReader c) : RD N_Reader_feed (t_Reader_feed c) (sp_Reader_feed c) := by
  obtain ⟨cl, n1, n2⟩ := R
  rintro vs H Q E ⟨a, dx, r, x, F, L, rfl, ta, W, wf, k1, k2⟩
  unfold t_Reader_feed
  walk_at "r"
  refine ⟨x, F, _, rfl, ta, W, fun hok F1 H1 s1 W1 => ?_, fun hno F1 H1 s1 W1 => k2 hno F1 H1 s1 W1⟩
  obtain ⟨l, rfl, hl⟩ := okText_str hok
  walk_at "r"
  refine n_lstL W1 (sz rfl) fun p H2 W2 => ?_
  walk_at "r"
  refine x_forOk (F := F1) (ItOk.str l) (fun i σ H' => (∃ sg, σ = [some (.ref a), some (.str (T l)), some (.ref p), sg]) ∧ ∃ F' xs, Same F1 F' ∧ DpAll c.K F' xs ((r.feed (l.take i)).2.map Tk.data) ∧ Hold F' ((p, .lst xs) :: (a, rdO c dx (r.feed (l.take i)).1) :: L) H')
    (fun i σ H' _ ⟨_, F', xs, s, _, W'⟩ => (Gr.of s).trans W'.gr) ⟨⟨none, rfl⟩, F1, [], Same.refl F1, .nil, W2⟩ ?_ ?_
  · rintro i σ H' hi ⟨⟨sg, rfl⟩, F', xs, s, hxs, W'⟩
    walk_at "r"
    have hlx : (r.feed (l.take i)).2.length ≤ i := feed_len r i l
    have hxl := dpAll_len hxs
    rw [List.length_map] at hxl
    refine x_tylst (sq_of W'.get0) ?_
    have W3 : Hold F' ((a, rdO c dx (r.feed (l.take i)).1) :: (p, .lst xs) :: L) H' := W'.perm (List.Perm.swap _ _ _)
    walk_at "r"
    refine ⟨a, dx, _, _, F', _, rfl, W3, feed_wf wf, fun r1 zs F4 H4 s4 h4 hz W4 => ?_⟩
    walk_at "r"
    have W5 : Hold F4 ((p, .lst xs) :: (a, rdO c dx ((r.feed (l.take i)).1.read (l.getD i 0)).1) :: L) H4 := W4.perm (List.Perm.swap _ _ _)
    have hzl := dpAll_len hz
    rw [List.length_map] at hzl
    have hz2 := read_len (r.feed (l.take i)).1 (l.getD i 0)
    refine ⟨p, r1, xs, zs, rfl, rfl, W5.get0, W4.old _ _ h4, szl (by omega), ?_⟩
    have et : l.take (i + 1) = l.take i ++ [l.getD i 0] := by
      rw [List.take_succ, List.getD_eq_getElem?_getD, List.getElem?_eq_getElem hi]; rfl
    have ef : r.feed (l.take (i + 1)) = (((r.feed (l.take i)).1.read (l.getD i 0)).1, (r.feed (l.take i)).2 ++ ((r.feed (l.take i)).1.read (l.getD i 0)).2) := by
      rw [et, feed_app]; simp [Rdr.feed]
    refine ⟨⟨_, rfl⟩, F4, xs ++ zs, s.trans s4, ?_, ?_⟩
    · rw [ef, List.map_append]
      exact dpAll_app ((Gr.of s4).dpAll hxs) hz
    · rw [ef]
      exact W5.put0
  · rintro σ H' ⟨⟨sg, rfl⟩, F', xs, s, hxs, W'⟩
    walk_at "r"
    rw [List.take_length] at hxs W'
    exact k1 l rfl hok p xs F' H' (s1.trans s) hxs W'
theorem rd_told : RD N_told (t_told c) (sp_told c) := by
  rintro vs H Q E ⟨x, F, L, rfl, ta, W, k1, k2⟩
  unfold t_told
  walk_at "r"
  refine x_an W fun a dx H1 W1 => ?_
  refine ⟨a, dx, F, L, rfl, W1, fun H2 W2 => ⟨rfl, ?_⟩⟩
  walk_at "r"
  refine ⟨a, dx, Rdr.new, x, F, L, rfl, ta, W2, trivial, fun l hx hok p xs F' H' s hxs W' => ?_, fun hno F' H' s W' => k2 hno F' H' s W'.drop⟩
  exact k1 l hx hok p xs F' H' s hxs (W'.sub (List.Sublist.cons₂ _ (List.sublist_cons_self _ _)))
end
end Ss
/-! ## The laws' own draws -/
namespace Ss
open PySem PySem.Spec PyProof.Rows L2
open Ss in
local macro_rules | `(tactic| walk_at "fg") => `(tactic| first | with_reducible exact fsReader_g0 | with_reducible exact fsReader_g1)
open Ss in
local macro_rules | `(tactic| walk_at "r") => `(tactic| repeat (first
  | with_reducible refine x_seq ?_ | with_reducible refine x_asg ?_ | with_reducible refine x_var rfl ?_ | with_reducible refine x_c ?_ | with_reducible refine x_op ?_ | with_reducible refine x_name ?_ | with_reducible refine x_gcons ?_ | with_reducible refine x_gnil ?_
  | with_reducible refine x_cons ?_ | with_reducible refine x_nil ?_ | with_reducible refine x_cb ?_ | with_reducible refine x_ifs ?_ | with_reducible refine x_test ?_ | with_reducible refine x_bl ?_
  | with_reducible refine g_addNN ?_ | with_reducible refine g_addNL ?_ | with_reducible refine g_addLN ?_ | with_reducible refine l_addI ?_ | with_reducible refine l_subI ?_ | with_reducible refine g_ltNL ?_ | with_reducible refine l_ltI ?_ | with_reducible refine l_leI ?_ | with_reducible refine l_gtI ?_ | with_reducible refine l_geI ?_ | with_reducible refine l_eqX ?_ | with_reducible refine l_neX ?_ | with_reducible refine g_eqNL ?_ | with_reducible refine l_eqII ?_ | with_reducible refine l_neII ?_ | with_reducible refine l_eq rfl ?_ | with_reducible refine l_ne rfl ?_
  | with_reducible refine x_fld ?_ | with_reducible refine x_ret ?_ | with_reducible refine x_drop ?_ | with_reducible refine x_next ?_ | with_reducible refine x_tup ?_ | with_reducible refine x_lst ?_ | with_reducible refine x_f ?_ | with_reducible refine x_o ?_ | with_reducible refine x_n ?_
  | with_reducible refine x_bm ?_ | with_reducible refine x_bm0 ?_ | with_reducible refine x_m1 ?_ | with_reducible refine x_m0 ?_ | with_reducible refine x_isstr ?_ | with_reducible refine x_tystr ?_ | with_reducible refine x_sl ?_ | with_reducible refine x_part ?_ | with_reducible refine x_part' ?_ | with_reducible refine x_nopart ?_
  | with_reducible refine x_sfld ?_ | with_reducible refine x_if ?_ | with_reducible refine x_isty ?_ | with_reducible refine x_chain ?_ | with_reducible refine x_andV ?_ | with_reducible refine x_orV ?_ | with_reducible refine x_notV ?_ | with_reducible refine x_B ?_ | with_reducible refine x_and ?_ | with_reducible refine x_or ?_ | with_reducible refine x_not ?_ | with_reducible refine x_tru ?_ | with_reducible refine x_yes ?_
  | with_reducible refine x_un ?_ | with_reducible refine x_neg ?_ | with_reducible refine x_par ?_ | with_reducible refine x_par' ?_ | with_reducible refine x_retN ?_ | with_reducible refine x_brk ?_ | with_reducible refine x_cont ?_ | with_reducible refine x_rz ?_
  | with_reducible refine l_leS ?_ | with_reducible refine l_ltS ?_ | with_reducible refine l_inX ?_ | with_reducible refine l_niX ?_ | with_reducible refine l_inS ?_ | with_reducible refine l_niS ?_ | with_reducible refine l_count ?_ | with_reducible refine l_ord ?_ | with_reducible refine l_max ?_ | with_reducible refine l_min ?_ | with_reducible refine l_intI ?_ | with_reducible refine l_intB ?_ | with_reducible refine l_is ?_ | with_reducible refine l_isn ?_
  | with_reducible refine g_modNL (by decide) ?_ | with_reducible refine g_divNL (by decide) (by decide) ?_ | with_reducible refine l_modI (by decide) ?_ | with_reducible refine x_for ?_ | with_reducible refine x_lc ?_ | with_reducible refine x_ilist ?_ | with_reducible refine x_itup ?_ | with_reducible refine x_istr ?_ | with_reducible refine x_istr' ?_ | with_reducible refine x_irng1 ?_ | with_reducible refine x_irng2 ?_
  | (with_reducible refine x_get (by first | assumption | exact Hold.get0 (by assumption) | exact Hold.get1 (by assumption)) (by assumption) (by assumption) (by walk_at "fg") ?_)
  | (with_reducible refine x_ao (by first | assumption | exact Hold.get0 (by assumption) | exact Hold.get1 (by assumption)) (by kernel_rfl) ?_)
  | with_reducible refine x_ienum ?_ | with_reducible refine x_izip ?_ | with_reducible refine x_chain3 ?_
  | (with_reducible refine x_par2 ?_)
  | (with_reducible refine x_par3 ?_) | (with_reducible refine x_par3' ?_)))
/-- a great number by a cell and a place -/
def drawnI (x : Int) (k : Nat) : Nat :=
  let a := ((x * 6364136223846793005 + ((k : Int) + 1) * 1442695040888963407) % 340282366920938463463374607431768211507).toNat
  let b := a * a % 340282366920938463463374607431768211297
  (b % 18446744073709551557 + 1) * (b / 18446744073709551557 + 1) * b % 340282366920938463463374607431768211507
theorem drawn_is : ∃ f : Int → Nat → Nat, ∀ x k, f x k = drawnI x k := ⟨drawnI, fun _ _ => rfl⟩
/-- the same, never to be reckoned (generalize is no help there: its letters are gone when the kernel looks) -/
noncomputable def drawn : Int → Nat → Nat := Classical.choose drawn_is
theorem drawn_eq (x : Int) (k : Nat) : drawn x k = drawnI x k := Classical.choose_spec drawn_is x k
theorem drawn_lt (x : Int) (k : Nat) : drawn x k < 340282366920938463463374607431768211507 := by rw [drawn_eq]; exact Nat.mod_lt _ (by decide)
theorem drawn_small (x : Int) (k : Nat) : drawn x k < 2 ^ 129 := Nat.lt_trans (drawn_lt x k) (by decide)
def cellOf (ns : List Int) (k : Nat) : Int := if ns = [] then (k : Int) * 7919 else ns.getD (k % ns.length) 0 + ((k / ns.length : Nat) : Int) * 104729
def sp__law_cell (c : Ctx) : Sp := fun vs H Q _ => ∃ a ns k F L, vs = [.ref a, .int ((k : Nat) : Int)] ∧ k ≤ 1000 ∧ SqL c.K F a (ns.map V.int) ∧ ns.length ≤ 63 ∧ Hold F L H ∧ ∀ F' H', Same F F' → Hold F' L H' → Q (.int (cellOf ns k)) H'
/-- a bound of what is drawn from -/
@[irreducible] def bigB : Nat := 2 ^ 1048580
theorem bigB_eq : bigB = 2 ^ 1048580 := by unfold bigB; rfl
theorem big_of {n k : Nat} (h : n < 2 ^ k) (hk : k ≤ 1048580) : n < bigB := by
  rw [bigB_eq]
  exact Nat.lt_of_lt_of_le h (Nat.pow_le_pow_right (by decide) hk)
theorem big_nat {n k : Nat} (h : n < 2 ^ k) (hk : k ≤ 1048580) : ((n : Nat) : Int).natAbs < bigB := by rw [Int.natAbs_natCast]; exact big_of h hk
def sp__law_drawn (_ : Ctx) : Sp := fun vs H Q _ => ∃ x k, vs = [.int x, .int ((k : Nat) : Int)] ∧ x.natAbs < bigB ∧ k < 2 ^ 64 ∧ Q (.int ((drawn x k : Nat) : Int)) H
def oneSigns : List Nat := [97, 98, 99, 100, 101, 88, 89, 32, 94, 40, 44, 41, 49, 57, 126]
def oneSmall : List Nat := [117, 100, 108, 114, 104, 110, 112, 101, 98, 107, 99, 115, 116, 122, 113, 120]
def oneGreat : List Nat := [71, 82, 67, 66, 77, 88, 73, 68, 78, 74, 90, 71]
def oneNums : List Nat := [0, 1, 2, 3, 4, 7, 12, 9999]
def oneMany (h w : Nat) : Nat := if h / 16 % 8 = 0 then h / 128 % 5 else if w = 71 ∨ w = 82 then 2 else 1
noncomputable def lawOne (m : Nat) : Tk :=
  if m % 16 < 8 then .sign (oneSigns.getD (m / 64 % 15) 0)
  else if m % 16 = 8 then .fin
  else if m % 16 < 13 then .act (oneSmall.getD (m / 64 % 16) 0) []
  else .act (oneGreat.getD (m / 64 % 12) 0) ((List.range (oneMany (m / 64) (oneGreat.getD (m / 64 % 12) 0))).map fun j => oneNums.getD (drawn ((m / 64 : Nat) : Int) j % 8) 0)
def sp__law_one (c : Ctx) : Sp := fun vs H Q _ => ∃ m F L, vs = [.int ((m : Nat) : Int)] ∧ m < 2 ^ 200 ∧ Hold F L H ∧ ∀ v F' H', Same F F' → Dp c.K F' v (lawOne m).data → Hold F' L H' → Q v H'
def runSigns : List Nat := [109, 110, 111, 112]
noncomputable def lawStep (m j : Nat) : List Tk := (if drawn m j % 5 = 0 then (List.range (drawn m j / 64 % 15)).map fun n => .sign (runSigns.getD ((drawn m j / 8 + n) % 4) 0) else []) ++ [lawOne (drawn m j / 8)]
noncomputable def lawRow (m many : Nat) : List Tk := (List.range (m % (many + 1))).flatMap (lawStep m)
def sp__law_row (c : Ctx) : Sp := fun vs H Q _ => ∃ m many F L, vs = [.int ((m : Nat) : Int), .int ((many : Nat) : Int)] ∧ m < 2 ^ 200 ∧ many ≤ 50 ∧ Hold F L H ∧
  ∀ (r : Addr) xs F' H', Same F F' → DpAll c.K F' xs ((lawRow m many).map Tk.data) → Hold F' ((r, .lst xs) :: L) H' → Q (.ref r) H'
/-- what tells a thing -/
def Tk.text : Tk → List Nat
  | .sign n => if n = 94 then [94, 94] else [n]
  | .fin => [10]
  | .act w ns => if isSmall w then [94, w] else [94, w, 40] ++ (TL.joinL [44] (ns.map TL.numL) ++ [41])
def lawText (ts : List Tk) : List Nat := ts.flatMap Tk.text
/-- small things -/
def Tk.Few : Tk → Prop
  | .sign _ => True
  | .fin => True
  | .act _ ns => ns.length ≤ 4 ∧ ∀ n ∈ ns, n ≤ 9999
def sp__law_text (c : Ctx) : Sp := fun vs H Q _ => ∃ a xs ts F L, vs = [.ref a] ∧ SqL c.K F a xs ∧ DpAll c.K F xs (List.map Tk.data ts) ∧ (∀ t ∈ ts, t.Few) ∧ ts.length ≤ 10000 ∧ Hold F L H ∧ ∀ F' H', Same F F' → Hold F' L H' → Q (.str (T (lawText ts))) H'
def t__law_cell (c : Ctx) (E : XK) : TS :=
  (tSeq (tIfS (tTest (tOp (uEq c.K) (tVar 0) (tLst tNil))) (tRet (tOp (uMul c.K) (tVar 1) (tC (.int 7919)))) tNext)
  (tRet (tOp (uAdd c.K) (tOp (uIx c.K) (tVar 0) (tOp uMod (tVar 1) (tCB (uLen c.K) (tCons (tVar 0) tNil)))) (tOp (uMul c.K) (tOp uDiv (tVar 1) (tCB (uLen c.K) (tCons (tVar 0) tNil))) (tC (.int 104729))))))
abbrev N__law_cell : List Str := ["_law_script", "_law_k"]

def t__law_drawn (c : Ctx) (E : XK) : TS :=
  (tSeq (tAsg (tOp uMod (tOp (uAdd c.K) (tOp (uMul c.K) (tVar 0) (tC (.int 6364136223846793005))) (tOp (uMul c.K) (tOp (uAdd c.K) (tVar 1) (tC (.int 1))) (tC (.int 1442695040888963407)))) (tC (.int 340282366920938463463374607431768211507))) (gName 2))
  (tSeq (tAsg (tOp uMod (tOp (uMul c.K) (tVar 2) (tVar 2)) (tC (.int 340282366920938463463374607431768211297))) (gName 2))
  (tSeq (tAsg (tOp (uMul c.K) (tOp (uMul c.K) (tOp (uAdd c.K) (tOp uMod (tVar 2) (tC (.int 18446744073709551557))) (tC (.int 1))) (tOp (uAdd c.K) (tOp uDiv (tVar 2) (tC (.int 18446744073709551557))) (tC (.int 1)))) (tVar 2)) (gName 2))
  (tRet (tOp uMod (tVar 2) (tC (.int 340282366920938463463374607431768211507)))))))
abbrev N__law_drawn : List Str := ["_law_cell_here", "_law_k", "_law_more"]

def t__law_one (c : Ctx) (E : XK) : TS :=
  (tSeq (tAsg (tOp uDiv (tVar 0) (tC (.int 64))) (gName 1))
  (tSeq (tAsg (tOp uMod (tVar 0) (tC (.int 16))) (gName 2))
  (tSeq (tIfS (tTest (tOp uLt (tVar 2) (tC (.int 8)))) (tRet (tTup (tCons (tC (.str ⟨#[115, 105, 103, 110]⟩)) (tCons (tOp (uIx c.K) (tC (.str ⟨#[97, 98, 99, 100, 101, 88, 89, 32, 94, 40, 44, 41, 49, 57, 126]⟩)) (tOp uMod (tVar 1) (tC (.int 15)))) tNil)))) tNext)
  (tSeq (tIfS (tTest (tOp (uEq c.K) (tVar 2) (tC (.int 8)))) (tRet (tTup (tCons (tC (.str ⟨#[101, 110, 100]⟩)) tNil))) tNext)
  (tSeq (tIfS (tTest (tOp uLt (tVar 2) (tC (.int 13)))) (tRet (tTup (tCons (tC (.str ⟨#[100, 111]⟩)) (tCons (tOp (uIx c.K) (tC (.str ⟨#[117, 100, 108, 114, 104, 110, 112, 101, 98, 107, 99, 115, 116, 122, 113, 120]⟩)) (tOp uMod (tVar 1) (tC (.int 16)))) (tCons (tTup tNil) tNil))))) tNext)
  (tSeq (tAsg (tOp (uIx c.K) (tC (.str ⟨#[71, 82, 67, 66, 77, 88, 73, 68, 78, 74, 90, 71]⟩)) (tOp uMod (tVar 1) (tC (.int 12)))) (gName 3))
  (tSeq (tAsg (tDGet2 (tDisp [((tC (.str ⟨#[71]⟩)), (tC (.int 2))), ((tC (.str ⟨#[82]⟩)), (tC (.int 2)))]) (tVar 3) (tC (.int 1))) (gName 4))
  (C8.tCut (tIfS (tTest (tOp (uEq c.K) (tOp uMod (tOp uDiv (tVar 1) (tC (.int 16))) (tC (.int 8))) (tC (.int 0)))) (tAsg (tOp uMod (tOp uDiv (tVar 1) (tC (.int 128))) (tC (.int 5))) (gName 4)) tNext) (tSeq (tAsg (tLc (iRng1 (tCons (tVar 4) tNil)) (gName 6) tYes (tOp (uIx c.K) (tLst (tCons (tC (.int 0)) (tCons (tC (.int 1)) (tCons (tC (.int 2)) (tCons (tC (.int 3)) (tCons (tC (.int 4)) (tCons (tC (.int 7)) (tCons (tC (.int 12)) (tCons (tC (.int 9999)) tNil))))))))) (tOp uMod (tF (sp__law_drawn c) E0 (tCons (tVar 1) (tCons (tVar 6) tNil))) (tC (.int 8)))) [6]) (gName 5))
  (tRet (tTup (tCons (tC (.str ⟨#[100, 111]⟩)) (tCons (tVar 3) (tCons (tCB (uTuple c.K) (tCons (tVar 5) tNil)) tNil))))))))))))))
abbrev N__law_one : List Str := ["_law_more", "_law_here", "_law_way", "_law_word_here", "_law_many", "_law_numbers", "_law_j"]

def t__law_row (c : Ctx) (E : XK) : TS :=
  (tSeq (tAsg (tLst tNil) (gName 2))
  (tSeq (tFor (iRng1 (tCons (tOp uMod (tVar 0) (tOp (uAdd c.K) (tVar 1) (tC (.int 1)))) tNil)) (gName 3) (tSeq (tAsg (tF (sp__law_drawn c) E0 (tCons (tVar 0) (tCons (tVar 3) tNil))) (gName 4))
  (C8.tCut (tIfS (tTest (tOp (uEq c.K) (tOp uMod (tVar 4) (tC (.int 5))) (tC (.int 0)))) (tAsg (tOp (uAdd c.K) (tVar 2) (tLc (iRng1 (tCons (tOp uMod (tOp uDiv (tVar 4) (tC (.int 64))) (tC (.int 15))) tNil)) (gName 5) tYes (tTup (tCons (tC (.str ⟨#[115, 105, 103, 110]⟩)) (tCons (tOp (uIx c.K) (tC (.str ⟨#[109, 110, 111, 112]⟩)) (tOp uMod (tOp (uAdd c.K) (tOp uDiv (tVar 4) (tC (.int 8))) (tVar 5)) (tC (.int 4)))) tNil))) [5])) (gName 2)) tNext) (tDrop (tBM c.K "list" rAppend (tVar 2) (tCons (tF (sp__law_one c) E0 (tCons (tOp uDiv (tVar 4) (tC (.int 8))) tNil)) tNil))))))
  (tRet (tVar 2))))
abbrev N__law_row : List Str := ["_law_more", "_law_many", "_law_found", "_law_j", "_law_here", "_law_n"]

def t__law_text (c : Ctx) (E : XK) : TS :=
  (tSeq (tAsg (tLst tNil) (gName 1))
  (tSeq (tFor (iList c.K (tVar 0)) (gName 2) (tIfS (tTest (tOp (uEq c.K) (tOp (uIx c.K) (tVar 2) (tC (.int 0))) (tC (.str ⟨#[115, 105, 103, 110]⟩)))) (tDrop (tBM c.K "list" rAppend (tVar 1) (tCons (CwR.tReplC (tOp (uIx c.K) (tVar 2) (tC (.int 1))) ⟨#[94]⟩ ⟨#[94, 94]⟩) tNil))) (tIfS (tTest (tOp (uEq c.K) (tOp (uIx c.K) (tVar 2) (tC (.int 0))) (tC (.str ⟨#[101, 110, 100]⟩)))) (tDrop (tBM c.K "list" rAppend (tVar 1) (tCons (tC (.str ⟨#[10]⟩)) tNil))) (tIfS (tTest (tOp (uIn c.K) (tOp (uIx c.K) (tVar 2) (tC (.int 1))) (tC (.str ⟨#[97, 98, 99, 100, 101, 102, 103, 104, 105, 106, 107, 108, 109, 110, 111, 112, 113, 114, 115, 116, 117, 118, 119, 120, 121, 122]⟩)))) (tDrop (tBM c.K "list" rAppend (tVar 1) (tCons (tOp (uAdd c.K) (tC (.str ⟨#[94]⟩)) (tOp (uIx c.K) (tVar 2) (tC (.int 1)))) tNil))) (tDrop (tBM c.K "list" rAppend (tVar 1) (tCons (tOp (uAdd c.K) (tOp (uAdd c.K) (tOp (uAdd c.K) (tOp (uAdd c.K) (tC (.str ⟨#[94]⟩)) (tOp (uIx c.K) (tVar 2) (tC (.int 1)))) (tC (.str ⟨#[40]⟩))) (tM1 (u_join c.K) (tC (.str ⟨#[44]⟩)) (tLc (iTup c.K (tOp (uIx c.K) (tVar 2) (tC (.int 2)))) (gName 3) tYes (tCB uStr (tCons (tVar 3) tNil)) [3]))) (tC (.str ⟨#[41]⟩))) tNil)))))))
  (tRet (tM1 (u_join c.K) (tC (.str ⟨#[]⟩)) (tVar 1)))))
abbrev N__law_text : List Str := ["_law_row_here", "_law_found", "_law_one_here", "_law_n"]

section
variable {c : Ctx}
theorem rd__law_cell : RD N__law_cell (t__law_cell c) (sp__law_cell c) := by
  rintro vs H Q E ⟨a, ns, k, F, L, rfl, hk, hs, hl, W, kk⟩
  unfold t__law_cell
  walk_at "r"
  refine n_lstF W (sz rfl) fun p F1 H1 s1 h1 W1 => ?_
  refine l_eqD (.lst (W1.gr.sqL ((Gr.of s1).sqL hs)) (dpAll_ints ns)) (.lst (sq_of (W1.old _ _ h1)) .nil) ((Sh.ints ns (k := 0)).shaped (by decide)) ((Sh.lst (k := 0) (by simp)).shaped (by decide)) ?_
  walk_at "r"
  cases ns with
  | nil =>
    refine wT rfl ?_
    walk_at "r"
    refine l_mulI (mulx_ok (a := 20) (b := 20) (by omega) (by decide) (by decide)) ?_
    exact kk F1 H1 s1 W1
  | cons n ns =>
    refine wF rfl ?_
    walk_at "r"
    refine l_lenL (W1.gr.sqL ((Gr.of s1).sqL hs)) ?_
    walk_at "r"
    refine g_modNN (by simp) ?_
    have hlt : k % ((n :: ns).map V.int).length < ((n :: ns).map V.int).length := Nat.mod_lt _ (by simp)
    refine g_ixL (W1.gr.sqL ((Gr.of s1).sqL hs)) hlt ?_
    walk_at "r"
    refine l_lenL (W1.gr.sqL ((Gr.of s1).sqL hs)) ?_
    walk_at "r"
    refine g_divNN (by simp) (by simp at hl ⊢; omega) ?_
    walk_at "r"
    have hkd : k / ((n :: ns).map V.int).length ≤ k := Nat.div_le_self _ _
    refine l_mulI (mulx_ok (a := 20) (b := 20) (by rw [Int.natAbs_natCast]; exact Nat.lt_of_le_of_lt (Nat.div_le_self _ _) (by omega)) (by decide) (by decide)) ?_
    have e : ((n :: ns).map V.int).getD (k % ((n :: ns).map V.int).length) .non = .int ((n :: ns).getD (k % (n :: ns).length) 0) := by
      rw [List.length_map, List.getD_eq_getElem?_getD, List.getD_eq_getElem?_getD, List.getElem?_map, List.getElem?_eq_getElem (by rw [← List.length_map (f := V.int)]; exact hlt)]
      rfl
    rw [e, List.length_map]
    walk_at "r"
    exact kk F1 H1 s1 W1
theorem rd__law_drawn : RD N__law_drawn (t__law_drawn c) (sp__law_drawn c) := by
  rintro vs H Q E ⟨x, k, rfl, hx, hk, kk⟩
  unfold t__law_drawn
  walk_at "r"
  rw [bigB_eq] at hx
  refine l_mulI (mulx_ok (a := 1048580) (b := 64) hx (by decide) (by decide)) ?_
  walk_at "r"
  refine l_mulI (mulx_ok (a := 65) (b := 64) (by omega) (by decide) (by decide)) ?_
  walk_at "r"
  have ek : ((k + 1 : Nat) : Int) = (k : Int) + 1 := by omega
  rw [ek]
  generalize hX : x * 6364136223846793005 + ((k : Int) + 1) * 1442695040888963407 = X
  have ea : X % 340282366920938463463374607431768211507 = (((X % 340282366920938463463374607431768211507).toNat : Nat) : Int) := (Int.toNat_of_nonneg (Int.emod_nonneg _ (by decide))).symm
  have ha : (X % 340282366920938463463374607431768211507).toNat < 340282366920938463463374607431768211507 := by
    have := Int.emod_lt_of_pos X (b := 340282366920938463463374607431768211507) (by decide)
    omega
  rw [ea]
  rw [drawn_eq] at kk
  unfold drawnI at kk
  rw [hX] at kk
  generalize (X % 340282366920938463463374607431768211507).toNat = a at ha kk
  refine g_mulNN (by omega) (by omega) ?_
  walk_at "r"
  have hb : a * a % 340282366920938463463374607431768211297 < 340282366920938463463374607431768211297 := Nat.mod_lt _ (by decide)
  dsimp only at kk
  generalize a * a % 340282366920938463463374607431768211297 = b at hb kk
  have hb1 : b % 18446744073709551557 + 1 < 2 ^ 65 := by omega
  have hb2 : b / 18446744073709551557 + 1 < 2 ^ 65 := by omega
  refine g_mulNN (by omega) (by omega) ?_
  walk_at "r"
  refine g_mulNN ?_ (by omega) ?_
  · exact Nat.lt_trans (Nat.mul_lt_mul'' hb1 hb2) (by decide)
  walk_at "r"
  exact kk
theorem rd__law_one : RD N__law_one (t__law_one c) (sp__law_one c) := by
  rintro vs H Q E ⟨m, F, L, rfl, hm, W, kk⟩
  unfold t__law_one
  walk_at "r"
  unfold lawOne at kk
  refine wD (fun h => ?_) (fun h => ?_)
  · rw [if_pos h] at kk
    walk_at "r"
    refine g_ixX (by decide) (Nat.mod_lt _ (by decide)) ?_
    walk_at "r"
    refine n_tupF W (sz rfl) fun p F' H' s h' W' => ?_
    exact kk _ F' H' s (.tup (st_of h') (.cons (.str _) (.cons (.str _) .nil))) W'
  · rw [if_neg h] at kk
    walk_at "r"
    refine wD (fun h1 => ?_) (fun h1 => ?_)
    · rw [if_pos h1] at kk
      walk_at "r"
      refine n_tupF W (sz rfl) fun p F' H' s h' W' => ?_
      exact kk _ F' H' s (.tup (st_of h') (.cons (.str _) .nil)) W'
    · rw [if_neg h1] at kk
      walk_at "r"
      refine wD (fun h2 => ?_) (fun h2 => ?_)
      · rw [if_pos h2] at kk
        walk_at "r"
        refine g_ixX (by decide) (Nat.mod_lt _ (by decide)) ?_
        walk_at "r"
        refine n_tupF W (sz rfl) fun p0 F0 H0 s0 h0 W0 => ?_
        walk_at "r"
        refine n_tupF W0 (sz rfl) fun p F' H' s h' W' => ?_
        exact kk _ F' H' (s0.trans s) (.tup (st_of h') (.cons (.str _) (.cons (.str _) (.cons (.tup (st_of (s _ _ h0)) .nil) .nil)))) W'
      · rw [if_neg h2] at kk
        walk_at "r"
        refine g_ixX (by decide) (Nat.mod_lt _ (by decide)) ?_
        walk_at "r"
        refine x_dget2 (n_dispC [(Sum.inr (T [71]), .int 2), (Sum.inr (T [82]), .int 2)] W rfl (by decide) fun pd H1 W1 => ?_)
        refine x_isd W1.get0 ?_
        walk_at "r"
        refine x_dgetS W1.get0 ?_
        have hw : ∀ i, i < 12 → (valV (mergeK [] [(Sum.inr (T [71]), V.int 2), (Sum.inr (T [82]), .int 2)]) (Sum.inr (T [oneGreat.getD i 0]))).getD (.int 1) = .int (((if oneGreat.getD i 0 = 71 ∨ oneGreat.getD i 0 = 82 then 2 else 1 : Nat) : Nat) : Int) := by decide +kernel
        have hw' := hw (m / 64 % 12) (Nat.mod_lt _ (by decide))
        rw [show ([71, 82, 67, 66, 77, 88, 73, 68, 78, 74, 90, 71] : List Nat) = oneGreat from rfl, hw']
        generalize hwd : oneGreat.getD (m / 64 % 12) 0 = w at kk ⊢
        walk_at "r"
        refine x_cut (fun σ' H' => H' = H1 ∧ σ' = [some (.int (m : Int)), some (.int ((m / 64 : Nat) : Int)), some (.int ((m % 16 : Nat) : Int)), some (.str (T [w])), some (.int ((oneMany (m / 64) w : Nat) : Int)), none, none]) ?_ ?_
        · walk_at "r"
          refine wD (fun h3 => ?_) (fun h3 => ?_)
          · walk_at "r"
            refine ⟨rfl, ?_⟩
            unfold oneMany
            rw [if_pos h3]
            rfl
          · walk_at "r"
            refine ⟨rfl, ?_⟩
            unfold oneMany
            rw [if_neg h3]
            rfl
        · rintro σ' H' ⟨rfl, rfl⟩
          have hmany : oneMany (m / 64) w ≤ 4 := by
            unfold oneMany
            split
            · omega
            · split <;> omega
          walk_at "r"
          refine x_irng1' (by omega) (by omega) ?_
          rw [Int.toNat_natCast]
          refine x_lcOk (F := F) ItOk.rng W1.drop (by omega) (fun j v _ => v = .int ((oneNums.getD (drawn ((m / 64 : Nat) : Int) j % 8) 0 : Nat) : Int)) (fun _ _ _ _ _ h => h) (fun d j F' H' QQ hj s W' kq => ?_) gm_name (fun D ys F' H' s hlen hv W' => ?_)
          · refine ⟨wipe1, ?_⟩
            walk_at "r"
            refine n_lstF W' (sz rfl) fun p1 F1 H1 s1 h1 W1 => ?_
            walk_at "r"
            have ej : (0 : Int) + (j : Int) = (j : Int) := Int.zero_add _
            rw [ej]
            refine ⟨_, j, rfl, big_nat (Nat.lt_of_le_of_lt (Nat.div_le_self _ _) hm) (by decide), by omega, ?_⟩
            walk_at "r"
            have h8 : drawn ((m / 64 : Nat) : Int) j % 8 < 8 := Nat.mod_lt _ (by decide)
            refine g_ixL (sq_of (W1.old _ _ h1)) h8 (kq _ F1 H1 s1 W1 ?_)
            have : ∀ i, i < 8 → [V.int 0, V.int 1, V.int 2, V.int 3, V.int 4, V.int 7, V.int 12, V.int 9999].getD i .non = .int ((oneNums.getD i 0 : Nat) : Int) := by decide +kernel
            exact this _ h8
          · walk_at "r"
            refine n_tupleF W' (sq_of W'.get0) fun p1 F1 H1 s1 h1 W1 => ?_
            walk_at "r"
            refine n_tupF W1 (sz rfl) fun p2 F2 H2 s2 h2 W2 => ?_
            refine kk _ F2 H2 ((s.trans s1).trans s2) (.tup (st_of h2) (.cons (.str _) (.cons (.str _) (.cons (.tup (st_of (s2 _ _ h1)) ?_) .nil)))) W2.drop
            refine dpAll_of (by simp [hlen]) fun i hi => ?_
            have hi' : i < oneMany (m / 64) w := by simpa using hi
            rw [hv i hi']
            have e2 : (((List.range (oneMany (m / 64) w)).map fun j => oneNums.getD (drawn ((m / 64 : Nat) : Int) j % 8) 0).map fun (n : Nat) => PyData.int n).getD i .none = .int ((oneNums.getD (drawn ((m / 64 : Nat) : Int) i % 8) 0 : Nat) : Int) := by
              rw [List.map_map, List.getD_eq_getElem?_getD, List.getElem?_map, List.getElem?_range hi']; rfl
            rw [e2]
            exact .int _
theorem one_few (m : Nat) : (lawOne m).Few := by
  unfold lawOne
  split
  · trivial
  · split
    · trivial
    · split
      · exact ⟨by simp, by simp⟩
      · refine ⟨?_, fun n hn => ?_⟩
        · rw [List.length_map, List.length_range]
          unfold oneMany
          split
          · omega
          · split <;> omega
        · obtain ⟨j, _, rfl⟩ := List.mem_map.mp hn
          have : ∀ i, i < 8 → oneNums.getD i 0 ≤ 9999 := by decide
          exact this _ (Nat.mod_lt _ (by decide))
theorem step_few (m j : Nat) : ∀ t ∈ lawStep m j, t.Few := by
  intro t ht
  unfold lawStep at ht
  rcases List.mem_append.mp ht with h | h
  · split at h
    · obtain ⟨n, _, rfl⟩ := List.mem_map.mp h; trivial
    · cases h
  · rw [List.mem_singleton.mp h]; exact one_few _
theorem row_few (m many : Nat) : ∀ t ∈ lawRow m many, t.Few := by
  intro t ht
  obtain ⟨j, _, h⟩ := List.mem_flatMap.mp ht
  exact step_few m j t h
theorem step_len (m j : Nat) : (lawStep m j).length ≤ 15 := by
  unfold lawStep
  rw [List.length_append]
  split
  · rw [List.length_map, List.length_range]; simp; omega
  · simp
theorem flat_len {α β : Type} {f : α → List β} {k : Nat} (h : ∀ x, (f x).length ≤ k) : ∀ l : List α, (l.flatMap f).length ≤ k * l.length
  | [] => by simp
  | x :: l => by
    rw [List.flatMap_cons, List.length_append, List.length_cons, Nat.mul_succ]
    have := h x
    have := flat_len h l
    omega
theorem row_len (m many : Nat) : (lawRow m many).length ≤ 15 * many := by
  unfold lawRow
  have h := flat_len (step_len m) (List.range (m % (many + 1)))
  rw [List.length_range] at h
  have : m % (many + 1) ≤ many := by have := Nat.mod_lt m (show 0 < many + 1 by omega); omega
  exact Nat.le_trans h (Nat.mul_le_mul_left _ this)
theorem rd__law_row : RD N__law_row (t__law_row c) (sp__law_row c) := by
  rintro vs H Q E ⟨m, many, F, L, rfl, hm, hy, W, kk⟩
  unfold t__law_row
  walk_at "r"
  refine n_lstL W (sz rfl) fun p0 H0 W0 => ?_
  walk_at "r"
  refine g_modNN (Nat.succ_pos _) ?_
  walk_at "r"
  have hle : m % (many + 1) ≤ many := by have := Nat.mod_lt m (show 0 < many + 1 by omega); omega
  refine x_irng1' (by omega) (by omega) ?_
  rw [Int.toNat_natCast]
  refine x_forOk (F := F) ItOk.rng (fun i σ H' => ∃ s3 s4 s5 p F' xs, σ = [some (.int (m : Int)), some (.int (many : Int)), some (.ref p), s3, s4, s5] ∧ Same F F' ∧ DpAll c.K F' xs (((List.range i).flatMap (lawStep m)).map Tk.data) ∧ Hold F' ((p, .lst xs) :: L) H')
    (fun i σ H' _ ⟨_, _, _, _, F', xs, _, s, _, W'⟩ => (Gr.of s).trans W'.gr) ⟨none, none, none, p0, F, [], rfl, Same.refl F, .nil, W0⟩ ?_ ?_
  · rintro i σ H' hi ⟨s3, s4, s5, p, F', xs, rfl, s, hxs, W'⟩
    have ei : (0 : Int) + (i : Int) = (i : Int) := Int.zero_add _
    rw [ei]
    have hxl := dpAll_len hxs
    rw [List.length_map] at hxl
    have hxl2 := flat_len (step_len m) (List.range i)
    rw [List.length_range] at hxl2
    walk_at "r"
    refine ⟨_, i, rfl, big_nat hm (by decide), by omega, ?_⟩
    have hdr := drawn_small (m : Int) i
    have hst : lawStep m i = (if drawn m i % 5 = 0 then (List.range (drawn m i / 64 % 15)).map fun n => .sign (runSigns.getD ((drawn m i / 8 + n) % 4) 0) else []) ++ [lawOne (drawn m i / 8)] := rfl
    generalize hg : drawn (m : Int) i = g at hdr hst ⊢
    walk_at "r"
    refine x_cut (fun σ' H2 => ∃ s5 p2 F2 ys, σ' = [some (.int (m : Int)), some (.int (many : Int)), some (.ref p2), some (.int (i : Int)), some (.int (g : Int)), s5] ∧ Same F' F2 ∧ ys.length ≤ xs.length + 15 ∧
      DpAll c.K F2 ys (((List.range i).flatMap (lawStep m)).map Tk.data ++ (if g % 5 = 0 then (List.range (g / 64 % 15)).map fun n => Tk.sign (runSigns.getD ((g / 8 + n) % 4) 0) else []).map Tk.data) ∧ Hold F2 ((p2, .lst ys) :: L) H2) ?_ ?_
    · walk_at "r"
      refine wD (fun h => ?_) (fun h => ?_)
      · rw [if_pos h]
        walk_at "r"
        refine x_irng1' (by omega) (by omega) ?_
        rw [Int.toNat_natCast]
        refine x_lcOk (F := F') ItOk.rng W' (by omega) (fun n v F => Dp c.K F v (Tk.sign (runSigns.getD ((g / 8 + n) % 4) 0)).data) (fun _ _ _ _ g h => g.dp h) (fun d n F1 H1 QQ hn s1 W1 kq => ?_) gm_name (fun D ys F1 H1 s1 hlen hv W1 => ?_)
        · refine ⟨wipe1, ?_⟩
          have en : (0 : Int) + (n : Int) = (n : Int) := Int.zero_add _
          rw [en]
          walk_at "r"
          refine g_ixX (by decide) (Nat.mod_lt _ (by decide)) ?_
          walk_at "r"
          refine n_tupF W1 (sz rfl) fun p1 F4 H4 s4 h4 W4 => ?_
          exact kq _ F4 H4 s4 W4 (.tup (st_of h4) (.cons (.str _) (.cons (.str _) .nil)))
        · refine n_addL W1.drop (W1.get1) W1.get0 (szl (by omega)) fun r H4 W4 => ?_
          walk_at "r"
          refine ⟨_, r, F1, xs ++ ys, rfl, s1, by rw [List.length_append]; omega, dpAll_app ((Gr.of s1).dpAll hxs) (dpAll_of (by simp [hlen]) fun j hj => ?_), W4.sub (List.Sublist.cons₂ _ (List.sublist_cons_self _ _))⟩
          have hj' : j < g / 64 % 15 := by simpa using hj
          have e2 : (((List.range (g / 64 % 15)).map fun n => Tk.sign (runSigns.getD ((g / 8 + n) % 4) 0)).map Tk.data).getD j .none = (Tk.sign (runSigns.getD ((g / 8 + j) % 4) 0)).data := by
            rw [List.map_map, List.getD_eq_getElem?_getD, List.getElem?_map, List.getElem?_range hj']; rfl
          rw [e2]
          exact hv j hj'
      · rw [if_neg h]
        walk_at "r"
        exact ⟨s5, p, F', xs, rfl, Same.refl F', by omega, by rw [List.map_nil, List.append_nil]; exact hxs, W'⟩
    · rintro σ2 H2 ⟨s5, p2, F2, ys, rfl, s2, hyl, hys, W2⟩
      walk_at "r"
      refine x_tylst (sq_of W2.get0) ?_
      walk_at "r"
      refine ⟨g / 8, F2, _, rfl, Nat.lt_of_le_of_lt (Nat.div_le_self _ _) (Nat.lt_trans hdr (by decide)), W2, fun v F4 H4 s4 hv W4 => ?_⟩
      walk_at "r"
      refine ⟨p2, ys, v, rfl, rfl, W4.get0, szlt (by omega), ?_⟩
      refine ⟨_, _, _, p2, F4, ys ++ [v], rfl, (s.trans s2).trans s4, ?_, W4.put0⟩
      rw [List.range_succ, List.flatMap_append, List.map_append, List.flatMap_singleton, hst, List.map_append, ← List.append_assoc]
      exact dpAll_app ((Gr.of s4).dpAll hys) (.cons hv .nil)
  · rintro σ H' ⟨s3, s4, s5, p, F', xs, rfl, s, hxs, W'⟩
    walk_at "r"
    exact kk p xs F' H' s hxs W'
/-- one thing told, as it lies at b -/
def TkAt (K : PySem.W.Frag) (F : Hp) (b : Addr) (t : Tk) : Prop := match t with
    | .sign n => SqT K F b [.str (T [115, 105, 103, 110]), .str (T [n])]
    | .fin => SqT K F b [.str (T [101, 110, 100])]
    | .act w ns => ∃ q, SqT K F b [.str (T [100, 111]), .str (T [w]), .ref q] ∧ SqT K F q (ns.map fun (n : Nat) => V.int n)
theorem tk_view {K : PySem.W.Frag} {F : Hp} {v : V} {t : Tk} (h : Dp K F v t.data) : ∃ b, v = .ref b ∧ TkAt K F b t := by
  cases t with
  | sign n =>
    cases h with
    | tup hs ha =>
      cases ha with
      | cons h1 h2 => cases h1; cases h2 with | cons h3 h4 => cases h3; cases h4; exact ⟨_, rfl, hs⟩
  | fin =>
    cases h with
    | tup hs ha =>
      cases ha with
      | cons h1 h2 => cases h1; cases h2; exact ⟨_, rfl, hs⟩
  | act w ns =>
    cases h with
    | tup hs ha =>
      cases ha with
      | cons h1 h2 =>
        cases h1
        cases h2 with
        | cons h3 h4 =>
          cases h3
          cases h4 with
          | cons h5 h6 =>
            cases h6
            cases h5 with
            | tup hq hn =>
              refine ⟨_, rfl, _, hs, ?_⟩
              have : ∀ (l : List Nat) (ys : List V), DpAll K F ys (l.map fun (n : Nat) => .int n) → ys = l.map fun (n : Nat) => V.int n := by
                intro l
                induction l with
                | nil => intro ys h; cases h; rfl
                | cons n l ih => intro ys h; cases h with | cons a b => cases a; rw [ih _ b]; rfl
              rw [this _ _ hn] at hq
              exact hq
theorem Tk.text_len {t : Tk} (h : t.Few) : t.text.length ≤ 24 := by
  cases t with
  | sign n => show (if n = 94 then [94, 94] else [n]).length ≤ 24; split <;> simp
  | fin => show 1 ≤ 24; decide
  | act w ns =>
    show (if isSmall w then [94, w] else [94, w, 40] ++ (TL.joinL [44] (ns.map TL.numL) ++ [41])).length ≤ 24
    split
    · simp
    · have := joinL_len (sep := [44]) (b := 4) (ls := ns.map TL.numL) fun l hl => by obtain ⟨n, hn, rfl⟩ := List.mem_map.mp hl; exact numL_len4 (h.2 n hn)
      rw [List.length_map] at this
      have h4 : ns.length ≤ 4 := h.1
      have hl1 : ([44] : List Nat).length = 1 := rfl
      rw [hl1] at this
      simp
      omega
theorem lawText_len {ts : List Tk} (h : ∀ t ∈ ts, t.Few) : (lawText ts).length ≤ 30 * ts.length := by
  unfold lawText
  induction ts with
  | nil => simp
  | cons t ts ih =>
    rw [List.flatMap_cons, List.length_append, List.length_cons, Nat.mul_succ]
    have := Tk.text_len (h t List.mem_cons_self)
    have := ih fun x hx => h x (List.mem_cons_of_mem _ hx)
    omega
theorem getD_mem {α : Type} {l : List α} {i : Nat} {d : α} (h : i < l.length) : l.getD i d ∈ l := by
  rw [List.getD_eq_getElem?_getD, List.getElem?_eq_getElem h]; exact List.getElem_mem h
theorem getD_map {α β : Type} {l : List α} {i : Nat} {d : α} {e : β} {f : α → β} (h : i < l.length) : (l.map f).getD i e = f (l.getD i d) := by
  rw [List.getD_eq_getElem?_getD, List.getD_eq_getElem?_getD, List.getElem?_map, List.getElem?_eq_getElem h]; rfl
theorem take_getD {α : Type} {l : List α} {i : Nat} {d : α} (h : i < l.length) : l.take (i + 1) = l.take i ++ [l.getD i d] := by
  rw [List.take_succ, List.getD_eq_getElem?_getD, List.getElem?_eq_getElem h]; rfl
/-- ','.join([str(n) for n in ns]) -/
theorem x_nums {σ : L2.St} {H F : Hp} {L : List (Addr × HO)} {Q : VK} {te : TE} {q : Addr} {ns : List Nat} {k : Nat} (W : Hold F L H) (hq : SqT c.K F q (ns.map fun (n : Nat) => V.int n)) (hn : ns.length ≤ 4 ∧ ∀ n ∈ ns, n ≤ 9999) (hk : k < σ.length)
    (hte : ∀ R : VK, R (.ref q) H → te σ H R) (kk : ∀ F' H', Same F F' → Hold F' L H' → Q (.str (T (TL.joinL [44] (ns.map TL.numL)))) H') :
    tM1 (u_join c.K) (tC (.str ⟨#[44]⟩)) (tLc (iTup c.K te) (gName k) tYes (tCB uStr (tCons (tVar k) tNil)) [k]) σ H Q := by
  walk_at "r"
  refine hte _ ?_
  refine x_itup' (W.gr.sqT hq) ?_
  refine x_lcOk (F := F) (ItOk.tup hq) W (by simp; omega) (fun i v _ => v = .str (T (TL.numL (ns.getD i 0)))) (fun _ _ _ _ _ h => h) (fun d i F' H' QQ hi s W' kq => ?_) gm_name (fun D ys F' H' s hlen hv W' => ?_)
  · refine ⟨wipe1, ?_⟩
    have hi' : i < ns.length := by simpa using hi
    rw [getD_map (d := 0) hi']
    walk_at "r"
    refine x_var (by rw [List.getElem?_set_self (by rw [wipe_length]; exact hk)]) ?_
    walk_at "r"
    refine l_strN ?_ (kq _ F' H' (Same.refl F') W' rfl)
    have := hn.2 _ (getD_mem (d := 0) hi')
    exact Nat.lt_of_le_of_lt this (by decide)
  · have ey : ys = (ns.map TL.numL).map fun l => .str (T l) := by
      refine List.ext_getElem? fun j => ?_
      by_cases hj : j < ns.length
      · have a1 := hv j (by simpa using hj)
        have hjy : j < ys.length := by rw [hlen]; simpa using hj
        rw [List.getD_eq_getElem?_getD, List.getElem?_eq_getElem hjy, List.getD_eq_getElem?_getD, List.getElem?_eq_getElem hj] at a1
        rw [List.getElem?_eq_getElem hjy, List.getElem?_map, List.getElem?_map, List.getElem?_eq_getElem hj]
        exact congrArg some a1
      · rw [List.getElem?_eq_none (by rw [hlen]; simpa using hj), List.getElem?_eq_none (by simpa using hj)]
    rw [ey] at W'
    refine l_join 4 (.inl (sq_of W'.get0)) (fun l hl => ?_) (by simp; omega) (kk F' H' s W'.drop)
    obtain ⟨n, hm, rfl⟩ := List.mem_map.mp hl
    exact numL_len4 (hn.2 n hm)
theorem rd__law_text : RD N__law_text (t__law_text c) (sp__law_text c) := by
  rintro vs H Q E ⟨a, xs, ts, F, L, rfl, hs, hd, hf, hl, W, kk⟩
  unfold t__law_text
  walk_at "r"
  refine n_lstL W (sz rfl) fun p0 H0 W0 => ?_
  walk_at "r"
  have hxl := dpAll_len hd
  rw [List.length_map] at hxl
  refine x_ilist' (W0.gr.sqL hs) ?_
  refine x_forOk (F := F) (ItOk.list hs) (fun i σ H' => ∃ s2 s3 F', σ = [some (.ref a), some (.ref p0), s2, s3] ∧ Same F F' ∧ Hold F' ((p0, .lst ((ts.take i).map fun t => .str (T t.text))) :: L) H')
    (fun i σ H' _ ⟨_, _, F', _, s, W'⟩ => (Gr.of s).trans W'.gr) ⟨none, none, F, rfl, Same.refl F, W0⟩ ?_ ?_
  · rintro i σ H' hi ⟨s2, s3, F', rfl, s, W'⟩
    have hi' : i < ts.length := by omega
    have hv := dpAll_get hd i (by simpa using hi')
    rw [getD_map (d := Tk.fin) hi'] at hv
    have hfew := hf _ (getD_mem (d := Tk.fin) hi')
    obtain ⟨b, hb, hvw⟩ := tk_view hv
    rw [hb]
    have fin : ∀ (l : List Nat) F4 H4 sl, Same F' F4 → l = (ts.getD i .fin).text → Hold F4 ((p0, .lst ((ts.take i).map fun t => .str (T t.text))) :: L) H4 → rAppend (.ref p0) [.str (T l)] H4 (fun _ H1 => ∃ s2 s3 F', [some (V.ref a), some (.ref p0), some (.ref b), sl] = [some (V.ref a), some (.ref p0), s2, s3] ∧ Same F F' ∧ Hold F' ((p0, .lst ((ts.take (i + 1)).map fun t => .str (T t.text))) :: L) H1) := by
      intro l F4 H4 sl s4 hl4 W4
      refine ⟨p0, _, _, rfl, rfl, W4.get0, szlt (by rw [List.length_map, List.length_take]; omega), some (.ref b), sl, F4, rfl, s.trans s4, ?_⟩
      rw [take_getD (d := Tk.fin) hi', List.map_append, List.map_cons, List.map_nil, ← hl4]
      exact W4.put0
    walk_at "r"
    cases ht : ts.getD i .fin with
    | sign n =>
      rw [ht] at hvw fin
      refine l_ixT (W'.gr.sqT ((Gr.of s).sqT hvw)) rfl ?_
      walk_at "r"
      refine wT (decide_eq_true rfl) ?_
      walk_at "r"
      refine x_tylst (sq_of W'.get0) ?_
      walk_at "r"
      show tOp (uIx c.K) (tVar 2) (tC (.int 1)) _ _ _
      walk_at "r"
      refine l_ixT (W'.gr.sqT ((Gr.of s).sqT hvw)) rfl ?_
      refine ⟨T [n], rfl, by show 1 + (1 + 1) * 2 ≤ 16777216; decide, ?_⟩
      walk_at "r"
      have e : Txt.replace (T [n]) ⟨#[94]⟩ ⟨#[94, 94]⟩ = T (Tk.sign n).text := by
        refine TL.ext_tl ?_
        have z := PySem.StrLaws.replace_list (x := T [n]) (y := ⟨#[94]⟩) (z := ⟨#[94, 94]⟩) (by decide)
        rw [TL.tl_mk]
        refine z.trans ?_
        show _ = (if n = 94 then [94, 94] else [n])
        by_cases h : n = 94
        · subst h; rfl
        · rw [if_neg h]
          simp [PySem.StrLaws.replL, PySem.StrLaws.replS, TL.pre, h]
      rw [e]
      exact fin _ F' H' _ (Same.refl F') rfl W'
    | fin =>
      rw [ht] at hvw fin
      refine l_ixT (W'.gr.sqT ((Gr.of s).sqT hvw)) rfl ?_
      walk_at "r"
      refine wF (decide_eq_false (by decide)) ?_
      walk_at "r"
      refine l_ixT (W'.gr.sqT ((Gr.of s).sqT hvw)) rfl ?_
      walk_at "r"
      refine wT (decide_eq_true rfl) ?_
      walk_at "r"
      refine x_tylst (sq_of W'.get0) ?_
      walk_at "r"
      exact fin [10] F' H' _ (Same.refl F') rfl W'
    | act w ns =>
      rw [ht] at hvw fin hfew
      obtain ⟨q, h1, h2⟩ := hvw
      refine l_ixT (W'.gr.sqT ((Gr.of s).sqT h1)) rfl ?_
      walk_at "r"
      refine wF (decide_eq_false (by decide)) ?_
      walk_at "r"
      refine l_ixT (W'.gr.sqT ((Gr.of s).sqT h1)) rfl ?_
      walk_at "r"
      refine wF (decide_eq_false (by decide)) ?_
      walk_at "r"
      refine l_ixT (W'.gr.sqT ((Gr.of s).sqT h1)) rfl ?_
      walk_at "r"
      rw [isSmall_mem']
      refine w2 (fun hsm => ?_) (fun hsm => ?_)
      · walk_at "r"
        refine x_tylst (sq_of W'.get0) ?_
        walk_at "r"
        refine l_ixT (W'.gr.sqT ((Gr.of s).sqT h1)) rfl ?_
        refine l_addX (by show 1 + 1 ≤ 1000000; decide) ?_
        walk_at "r"
        exact fin _ F' H' _ (Same.refl F') (by show _ = (if isSmall w then [94, w] else [94, w, 40] ++ (TL.joinL [44] (ns.map TL.numL) ++ [41])); rw [if_pos hsm]; rfl) W'
      · walk_at "r"
        refine x_tylst (sq_of W'.get0) ?_
        walk_at "r"
        refine l_ixT (W'.gr.sqT ((Gr.of s).sqT h1)) rfl ?_
        refine l_addX (by show 1 + 1 ≤ 1000000; decide) ?_
        walk_at "r"
        refine l_addX (by show 2 + 1 ≤ 1000000; decide) ?_
        refine x_nums (F := F') W' ((Gr.of s).sqT h2) hfew (by show 3 < 4; decide) (fun R hR => ?_) (fun F4 H4 s4 W4 => ?_)
        · walk_at "r"
          exact l_ixT (W'.gr.sqT ((Gr.of s).sqT h1)) rfl hR
        have hjl := joinL_len (sep := [44]) (b := 4) (ls := ns.map TL.numL) fun l hl => by obtain ⟨n, hn, rfl⟩ := List.mem_map.mp hl; exact numL_len4 (hfew.2 n hn)
        rw [List.length_map] at hjl
        have := hfew.1
        have hl1 : ([44] : List Nat).length = 1 := rfl
        rw [hl1] at hjl
        refine l_addX (by simp; omega) ?_
        walk_at "r"
        refine l_addX (by simp; omega) ?_
        walk_at "r"
        refine fin _ F4 H4 _ s4 ?_ W4
        show _ = (if isSmall w then [94, w] else [94, w, 40] ++ (TL.joinL [44] (ns.map TL.numL) ++ [41]))
        rw [if_neg (by rw [hsm]; decide)]
        simp
  · rintro σ H' ⟨s2, s3, F', rfl, s, W'⟩
    walk_at "r"
    rw [hxl, List.take_length] at W'
    have em : (ts.map fun t => V.str (T t.text)) = (ts.map Tk.text).map fun l => V.str (T l) := by rw [List.map_map]; rfl
    rw [em] at W'
    refine l_join 30 (.inl (sq_of W'.get0)) (fun l hl => ?_) (by simp; omega) ?_
    · obtain ⟨t, ht, rfl⟩ := List.mem_map.mp hl
      exact Nat.le_trans (Tk.text_len (hf t ht)) (by decide)
    · rw [joinL_nil]
      have := kk F' H' s W'.drop
      unfold lawText at this
      rw [List.flatMap_def] at this
      exact this
end
end Ss
/-! ## A lambda without parameters handed to _law_told -/
namespace Ss
open PySem PySem.Spec PyProof.Rows L2 LamX
/-- told, where nothing is raised -/
def TT0 : (XK → Hp → VK → Prop) → Hp → VK → Prop := fun tl H Q => tl (fun _ _ _ => False) H Q
theorem told0_gives {X : Cx} {Ng : List Str} {x a e q n : Str} {sg : Scope} {g CS : Addr} {cdg : Value} {p1 p2 p3 p4 p7 p8 : Pos} {b₀ : Stmt} {suite : List Stmt} (hN : Ng.Nodup) (hi : Ng[1]? = some n) (hln : sg.names.lookup n = some .local)
    (hge : sg.names.lookup e = some .globalImplicit) (hme : X.mg e = some (.ref CS)) (hde : (e == ("__debug__" : Str)) = false) (h0 : ∀ f : Addr, (L2.start Ng [V.ref f])[0]? = some (some (V.ref f))) :
    GivesTo X Ng x sg g cdg [.Try [.Return (some (.Call (.Name a p1) [] [] p2)) p3] [.ExceptHandler (some (.Name e p4)) (some n) (b₀ :: suite) p7] [] [] p8] a q TT0 := by
  intro f c' s H Q tl act hc h
  have hgl : Gl (cxOf C8.CX0 X.prog X.w X.K X.mg X.base Ng x sg g cdg X.A X.stack s H C8.E0).nox e := hge
  refine ⟨_, pss_one (L2.ps_try_as (X := (cxOf C8.CX0 X.prog X.w X.K X.mg X.base Ng x sg g cdg X.A X.stack s H C8.E0).nox) (c := .ref CS) (i := 1) (Wout := fun _ _ _ _ => False)
      (tb := fun W D σ H => ∃ Ech : XK, (∀ cls d σ' H', Ech cls d H' → W cls d σ' H') ∧ σ[0]? = some (some (.ref f)) ∧ H c' = some (CodeO c' q) ∧ tl Ech H D.rt)
      rfl rfl hN hi hln ⟨hgl, hde, .inl hme⟩ LamX.takes0 (fun W pn xe tk _ => ?_) (fun a oe cls d pn _ _ => pss_never)), ?_⟩
  · refine ⟨fun pins s' σ H' D I h' => ?_⟩
    obtain ⟨Ech, hW, h1, h2, h3⟩ := h'
    have hp := act W pn xe Ech p1 p2 tk hW
    have hq := pss_one (ps_ret (pos := p3) hp)
    exact hq.run pins s' σ H' D I ⟨h1, h2, h3⟩
  · exact ⟨fun _ _ _ => False, fun cls d σ' H' z => z.elim, h0 f, hc, h⟩
/-- the def _law_told, wherever it stands -/
structure ToldOk (P : Program) (w : World) (K : PySem.W.Frag) (mg : Str → Option Value) (pg : Arguments) (bg : List Stmt) (sg : Scope) : Prop where
  ex : ∃ (g : Addr) (oc : Value) (od : Option Addr) (dV kV doc pm : Value) (an : Option Addr) (cdv ct : Value) (osl : Array (Option Value)), mg "_law_told" = some (.ref g) ∧ PySem.W.keepIn K (.ref g) = true ∧
    K.lookup g = some ⟨oc, od, .func (PySem.W.fnOf "_law_told" "_law_told" pg bg sg dV kV doc pm an cdv ct), osl⟩ ∧ PySem.W.codeIn K cdv "_law_told" = true ∧ L2.Binds K (PySem.W.fnOf "_law_told" "_law_told" pg bg sg dV kV doc pm an cdv ct) ["_law_deed"] []
  gives : ∀ (X : Cx), X.mg = mg → ∀ (g : Addr) (cdg : Value) (q : Str), GivesTo X ["_law_deed", "_law_e"] "_law_told" sg g cdg bg "_law_deed" q TT0
  sc : FnScope ["_law_deed", "_law_e"] ["_law_deed"] sg
  vis : Vis sg "_law_deed"
theorem pe_told {X : Cx} {T : List (Addr × Str)} {pg : Arguments} {bg : List Stmt} {sg : Scope} {c P : Addr} {k k' : Nat} {params : Arguments} {body : Expr} {scope : Scope} {t : XK → TE} {p lpos pos : Pos} (D : ToldOk X.prog X.w X.K X.mg pg bg sg)
    (TB : TabB X.base X.mg c P) (hcode : X.env.code = .ref c) (hT : T = [(P, X.env.qual ++ "<lambda>")]) (hr : Room k' X.A) (L : LamS X.env.scope scope) (hdef : defaultsOf params X.env = ([], []))
    (hbind : ∀ (q : Str) (cl : List (Str × Addr)) (pm cv ctv : Value), bindArgs (PySem.W.kla_fn "<lambda>" q params body scope cl pm cv ctv) ⟨[], []⟩ = pure [])
    (hbody : ∀ (A : Around) (outer : List Env) (s : Shared) (H : Hp) (E : XK) (f c' : Addr), Room k (A.deeper (lamEnv X scope s.heap.objs.size f c')) → PE (lamCx X A outer s H E scope f c') body (t E))
    (hk : k + 2 ≤ k' := by decide) (hg : Gl X "_law_told" := by rfl) : PE X (.Call (.Name "_law_told" p) [.Lambda params body scope lpos] [] pos) (tLam T TT0 t) := by
  obtain ⟨g, oc, od, dV, kV, doc, pm, an, cdv, ct, osl, h1, h2, h3, h4, h5⟩ := D.ex
  subst hT
  exact pe_lamcall hg h1 h2 h3 h4 h5 D.sc rfl D.vis (D.gives X rfl g cdv _) TB hcode (List.mem_singleton.mpr rfl) (fun p hp _ => by rw [List.mem_singleton.mp hp]) (hr.mono hk) L hdef hbind hbody
/-- what may be one's own when a lambda is made -/
def Plain : HO → Prop
  | .lst _ => True
  | .ins _ _ _ => True
  | .dK _ => True
  | .dT _ => True
  | _ => False
theorem x_lam {T : List (Addr × Str)} {t : XK → TE} {σ : L2.St} {F H : Hp} {L : List (Addr × HO)} {Q : VK} (W : Hold F L H) (hL : ∀ x ∈ L, Plain x.2) (tb : Tabs T F)
    (k : ∀ F1 H1, Gr F F1 → Tabs T F1 → Hold F1 L H1 → t (fun _ _ _ => False) σ H1 Q) : tLam T TT0 t σ H Q := by
  refine ⟨tb.ext W.old, fun H1 eN T1 => ?_⟩
  refine k (fun b => if b ∈ L.map (·.1) then none else H1 b) H1 (fun b o e n => ?_) (fun p hp => ?_) ?_
  · have hb : b ∉ L.map (·.1) := fun hm => by
      obtain ⟨x, hx, rfl⟩ := List.mem_map.mp hm
      rw [W.sep x hx] at e; cases e
    show (if b ∈ L.map (·.1) then none else H1 b) = some o
    rw [if_neg hb]
    exact eN b o (W.old b o e) n
  · obtain ⟨ps, h1, h2, h3⟩ := T1 p hp
    have nL : ∀ b o, H1 b = some o → ¬ Plain o → b ∉ L.map (·.1) := fun b o e hn hm => by
      obtain ⟨x, hx, rfl⟩ := List.mem_map.mp hm
      have pl := hL x hx
      have z := eN x.1 x.2 (W.own x hx) (fun ps q => by rw [q] at pl; exact pl)
      rw [e] at z
      cases z
      exact hn pl
    refine ⟨ps, ?_, h2, fun pos cv hc => ?_⟩
    · show (if p.1 ∈ L.map (·.1) then none else H1 p.1) = _
      rw [if_neg (nL _ _ h1 (fun z => z))]; exact h1
    · obtain ⟨c, e1, e2⟩ := h3 pos cv hc
      refine ⟨c, e1, ?_⟩
      show (if c ∈ L.map (·.1) then none else H1 c) = _
      rw [if_neg (nL _ _ e2 (fun z => by unfold CodeO at z; exact z))]; exact e2
  · refine ⟨fun b o e => ?_, fun x hx => ?_, fun x hx => ?_, W.nd⟩
    · have e' : (if b ∈ L.map (·.1) then none else H1 b) = some o := e
      by_cases hb : b ∈ L.map (·.1)
      · rw [if_pos hb] at e'; cases e'
      · rw [if_neg hb] at e'; exact e'
    · exact eN x.1 x.2 (W.own x hx) (fun ps q => by have := hL x hx; rw [q] at this; exact this)
    · show (if x.1 ∈ L.map (·.1) then none else H1 x.1) = none
      rw [if_pos (List.mem_map_of_mem hx)]
end Ss
/-! ## law k10: the defs beside the common ones -/
namespace Ss
open PySem PySem.Spec PyProof.Rows L2
open Ss in
local macro_rules | `(tactic| walk_at "fg") => `(tactic| first | with_reducible exact fsReader_g0 | with_reducible exact fsReader_g1)
open Ss in
local macro_rules | `(tactic| walk_at "r") => `(tactic| repeat (first
  | with_reducible refine x_seq ?_ | with_reducible refine x_asg ?_ | with_reducible refine x_var rfl ?_ | with_reducible refine x_c ?_ | with_reducible refine x_op ?_ | with_reducible refine x_name ?_ | with_reducible refine x_gcons ?_ | with_reducible refine x_gnil ?_
  | with_reducible refine x_cons ?_ | with_reducible refine x_nil ?_ | with_reducible refine x_cb ?_ | with_reducible refine x_ifs ?_ | with_reducible refine x_test ?_ | with_reducible refine x_bl ?_
  | with_reducible refine g_addNN ?_ | with_reducible refine g_addNL ?_ | with_reducible refine g_addLN ?_ | with_reducible refine l_addI ?_ | with_reducible refine l_subI ?_ | with_reducible refine g_ltNL ?_ | with_reducible refine l_ltI ?_ | with_reducible refine l_leI ?_ | with_reducible refine l_gtI ?_ | with_reducible refine l_geI ?_ | with_reducible refine l_eqX ?_ | with_reducible refine l_neX ?_ | with_reducible refine g_eqNL ?_ | with_reducible refine l_eqII ?_ | with_reducible refine l_neII ?_ | with_reducible refine l_eq rfl ?_ | with_reducible refine l_ne rfl ?_
  | with_reducible refine x_fld ?_ | with_reducible refine x_ret ?_ | with_reducible refine x_drop ?_ | with_reducible refine x_next ?_ | with_reducible refine x_tup ?_ | with_reducible refine x_lst ?_ | with_reducible refine x_f ?_ | with_reducible refine x_o ?_ | with_reducible refine x_n ?_
  | with_reducible refine x_bm ?_ | with_reducible refine x_bm0 ?_ | with_reducible refine x_m1 ?_ | with_reducible refine x_m0 ?_ | with_reducible refine x_isstr ?_ | with_reducible refine x_tystr ?_ | with_reducible refine x_sl ?_ | with_reducible refine x_part ?_ | with_reducible refine x_part' ?_ | with_reducible refine x_nopart ?_
  | with_reducible refine x_sfld ?_ | with_reducible refine x_if ?_ | with_reducible refine x_isty ?_ | with_reducible refine x_chain ?_ | with_reducible refine x_andV ?_ | with_reducible refine x_orV ?_ | with_reducible refine x_notV ?_ | with_reducible refine x_B ?_ | with_reducible refine x_and ?_ | with_reducible refine x_or ?_ | with_reducible refine x_not ?_ | with_reducible refine x_tru ?_ | with_reducible refine x_yes ?_
  | with_reducible refine x_un ?_ | with_reducible refine x_neg ?_ | with_reducible refine x_par ?_ | with_reducible refine x_par' ?_ | with_reducible refine x_retN ?_ | with_reducible refine x_brk ?_ | with_reducible refine x_cont ?_ | with_reducible refine x_rz ?_
  | with_reducible refine l_leS ?_ | with_reducible refine l_ltS ?_ | with_reducible refine l_inX ?_ | with_reducible refine l_niX ?_ | with_reducible refine l_inS ?_ | with_reducible refine l_niS ?_ | with_reducible refine l_count ?_ | with_reducible refine l_ord ?_ | with_reducible refine l_max ?_ | with_reducible refine l_min ?_ | with_reducible refine l_intI ?_ | with_reducible refine l_intB ?_ | with_reducible refine l_is ?_ | with_reducible refine l_isn ?_
  | with_reducible refine g_modNL (by decide) ?_ | with_reducible refine g_divNL (by decide) (by decide) ?_ | with_reducible refine l_modI (by decide) ?_ | with_reducible refine x_for ?_ | with_reducible refine x_lc ?_ | with_reducible refine x_ilist ?_ | with_reducible refine x_itup ?_ | with_reducible refine x_istr ?_ | with_reducible refine x_istr' ?_ | with_reducible refine x_irng1 ?_ | with_reducible refine x_irng2 ?_
  | (with_reducible refine x_get (by first | assumption | exact Hold.get0 (by assumption) | exact Hold.get1 (by assumption)) (by assumption) (by assumption) (by walk_at "fg") ?_)
  | (with_reducible refine x_ao (by first | assumption | exact Hold.get0 (by assumption) | exact Hold.get1 (by assumption)) (by kernel_rfl) ?_)
  | with_reducible refine x_ienum ?_ | with_reducible refine x_izip ?_ | with_reducible refine x_chain3 ?_
  | (with_reducible refine x_par2 ?_)
  | (with_reducible refine x_par3 ?_) | (with_reducible refine x_par3' ?_)))
def sp_written (c : Ctx) : Sp := fun vs H Q _ => ∃ a xs ts F L, vs = [.ref a] ∧ SqL c.K F a xs ∧ DpAll c.K F xs (List.map Tk.data ts) ∧ (∀ t ∈ ts, t.Few) ∧ ts.length ≤ 10000 ∧ Hold F L H ∧ ∀ F' H', Same F F' → Hold F' L H' → Q (.str (T (lawText ts))) H'
def broken (i : Nat) : List Nat := [[94], [94, 65], [94, 71, 40], [94, 71, 40, 49], [94, 71, 40, 49, 44], [94, 71, 40, 49, 50, 51, 52], [94, 90, 40, 49, 44, 50, 44, 51, 44, 52], [94, 78, 40, 57, 57, 57, 57], [94, 88, 40, 48]].getD i []
def sp__law_broken (c : Ctx) : Sp := fun vs H Q _ => ∃ m F L, vs = [.int ((m : Nat) : Int)] ∧ Hold F L H ∧ ∀ (r : Addr) F' H', Same F F' → F' r = some (.tup [.str (T (broken (m % 9))), .int ((broken (m % 9)).length : Nat)]) → Hold F' L H' → Q (.ref r) H'
def t_written (c : Ctx) (E : XK) : TS :=
  (tSeq (tAsg (tC (.str ⟨#[]⟩)) (gName 1))
  (tSeq (tFor (iList c.K (tVar 0)) (gName 2) (tIfS (tTest (tOp (uEq c.K) (tOp (uIx c.K) (tVar 2) (tC (.int 0))) (tC (.str ⟨#[101, 110, 100]⟩)))) (tAsg (tOp (uAdd c.K) (tVar 1) (tC (v_GAP c))) (gName 1)) (tIfS (tTest (tOp (uEq c.K) (tOp (uIx c.K) (tVar 2) (tC (.int 0))) (tC (.str ⟨#[115, 105, 103, 110]⟩)))) (tAsg (tOp (uAdd c.K) (tVar 1) (tIf (tTest (tOp (uEq c.K) (tOp (uIx c.K) (tVar 2) (tC (.int 1))) (tC (.str ⟨#[94]⟩)))) (tC (.str ⟨#[94, 94]⟩)) (tOp (uIx c.K) (tVar 2) (tC (.int 1))))) (gName 1)) (tIfS (tTest (tOp (uIn c.K) (tOp (uIx c.K) (tVar 2) (tC (.int 1))) (tC (v_SMALL c)))) (tAsg (tOp (uAdd c.K) (tOp (uAdd c.K) (tVar 1) (tC (.str ⟨#[94]⟩))) (tOp (uIx c.K) (tVar 2) (tC (.int 1)))) (gName 1)) (tAsg (tOp (uAdd c.K) (tOp (uAdd c.K) (tOp (uAdd c.K) (tOp (uAdd c.K) (tOp (uAdd c.K) (tVar 1) (tC (.str ⟨#[94]⟩))) (tOp (uIx c.K) (tVar 2) (tC (.int 1)))) (tC (.str ⟨#[40]⟩))) (tM1 (u_join c.K) (tC (.str ⟨#[44]⟩)) (tLc (iTup c.K (tOp (uIx c.K) (tVar 2) (tC (.int 2)))) (gName 3) tYes (tCB uStr (tCons (tVar 3) tNil)) [3]))) (tC (.str ⟨#[41]⟩))) (gName 1))))))
  (tRet (tVar 1))))
abbrev N_written : List Str := ["row", "found", "one", "number"]

def t__law_broken (c : Ctx) (E : XK) : TS :=
  (tSeq (tAsg (tLst (tCons (tC (.str ⟨#[94]⟩)) (tCons (tC (.str ⟨#[94, 65]⟩)) (tCons (tC (.str ⟨#[94, 71, 40]⟩)) (tCons (tC (.str ⟨#[94, 71, 40, 49]⟩)) (tCons (tC (.str ⟨#[94, 71, 40, 49, 44]⟩)) (tCons (tSl (uSl c.K) (tC (.str ⟨#[94, 71, 40, 49, 50, 51, 52, 53]⟩)) tNoPart (tPart (tC (.int 7)))) (tCons (tC (.str ⟨#[94, 90, 40, 49, 44, 50, 44, 51, 44, 52]⟩)) (tCons (tC (.str ⟨#[94, 78, 40, 57, 57, 57, 57]⟩)) (tCons (tC (.str ⟨#[94, 88, 40, 48]⟩)) tNil)))))))))) (gName 1))
  (tSeq (tAsg (tOp (uIx c.K) (tVar 1) (tOp uMod (tVar 0) (tCB (uLen c.K) (tCons (tVar 1) tNil)))) (gName 2))
  (tRet (tTup (tCons (tVar 2) (tCons (tCB (uLen c.K) (tCons (tVar 2) tNil)) tNil))))))
abbrev N__law_broken : List Str := ["_law_more", "_law_some", "_law_found"]

section
variable {c : Ctx}
theorem rd__law_broken : RD N__law_broken (t__law_broken c) (sp__law_broken c) := by
  rintro vs H Q E ⟨m, F, L, rfl, W, kk⟩
  unfold t__law_broken
  walk_at "r"
  refine l_slX (by decide) ?_
  walk_at "r"
  refine n_lstF W (sz rfl) fun p1 F1 H1 s1 h1 W1 => ?_
  walk_at "r"
  refine l_lenL (sq_of (W1.old _ _ h1)) ?_
  refine g_modNN (by decide) ?_
  have h9 : m % 9 < 9 := Nat.mod_lt _ (by decide)
  refine g_ixL (sq_of (W1.old _ _ h1)) h9 ?_
  have e : ∀ i, i < 9 → [V.str (T [94]), V.str (T [94, 65]), V.str (T [94, 71, 40]), V.str (T [94, 71, 40, 49]), V.str (T [94, 71, 40, 49, 44]), V.str (T (cutL [94, 71, 40, 49, 50, 51, 52, 53] none (some 7))), V.str (T [94, 90, 40, 49, 44, 50, 44, 51, 44, 52]), V.str (T [94, 78, 40, 57, 57, 57, 57]), V.str (T [94, 88, 40, 48])].getD i .non = .str (T (broken i)) := by decide +kernel
  show gName 2 ([V.str (T [94]), V.str (T [94, 65]), V.str (T [94, 71, 40]), V.str (T [94, 71, 40, 49]), V.str (T [94, 71, 40, 49, 44]), V.str (T (cutL [94, 71, 40, 49, 50, 51, 52, 53] none (some 7))), V.str (T [94, 90, 40, 49, 44, 50, 44, 51, 44, 52]), V.str (T [94, 78, 40, 57, 57, 57, 57]), V.str (T [94, 88, 40, 48])].getD (m % 9) .non) _ _ _
  rw [e _ h9]
  have hb : ∀ i, i < 9 → (broken i).length ≤ 1000 := by decide +kernel
  walk_at "r"
  refine l_lenX (Nat.le_trans (hb _ h9) (by decide)) ?_
  walk_at "r"
  refine n_tupF W1 (sz rfl) fun p2 F2 H2 s2 h2 W2 => ?_
  exact kk p2 F2 H2 (s1.trans s2) h2 W2
theorem rd_written : RD N_written (t_written c) (sp_written c) := by
  rintro vs H Q E ⟨a, xs, ts, F, L, rfl, hs, hd, hf, hl, W, kk⟩
  unfold t_written
  walk_at "r"
  have hxl := dpAll_len hd
  rw [List.length_map] at hxl
  refine x_ilist' (W.gr.sqL hs) ?_
  refine x_forOk (F := F) (ItOk.list hs) (fun i σ H' => ∃ s2 s3 F', σ = [some (.ref a), some (.str (T (lawText (ts.take i)))), s2, s3] ∧ Same F F' ∧ Hold F' L H')
    (fun i σ H' _ ⟨_, _, F', _, s, W'⟩ => (Gr.of s).trans W'.gr) ⟨none, none, F, rfl, Same.refl F, W⟩ ?_ ?_
  · rintro i σ H' hi ⟨s2, s3, F', rfl, s, W'⟩
    have hi' : i < ts.length := by omega
    have hv := dpAll_get hd i (by simpa using hi')
    rw [getD_map (d := Tk.fin) hi'] at hv
    have hfew := hf _ (getD_mem (d := Tk.fin) hi')
    obtain ⟨b, hb, hvw⟩ := tk_view hv
    rw [hb]
    have hsofar : (lawText (ts.take i)).length ≤ 300000 := by
      have := lawText_len (ts := ts.take i) fun t ht => hf t (List.mem_of_mem_take ht)
      rw [List.length_take] at this
      omega
    have fin : ∀ (l : List Nat) F4 H4 sl, Same F' F4 → l = lawText (ts.take i) ++ (ts.getD i .fin).text → Hold F4 L H4 → ∃ s2 s3 F', [some (V.ref a), some (.str (T l)), some (.ref b), sl] = [some (V.ref a), some (.str (T (lawText (ts.take (i + 1))))), s2, s3] ∧ Same F F' ∧ Hold F' L H4 := by
      intro l F4 H4 sl s4 hl4 W4
      refine ⟨some (.ref b), sl, F4, ?_, s.trans s4, W4⟩
      rw [take_getD (d := Tk.fin) hi', hl4]
      have : lawText (ts.take i ++ [ts.getD i .fin]) = lawText (ts.take i) ++ (ts.getD i .fin).text := by simp [lawText]
      rw [this]
    walk_at "r"
    cases ht : ts.getD i .fin with
    | sign n =>
      rw [ht] at hvw fin
      refine l_ixT (W'.gr.sqT ((Gr.of s).sqT hvw)) rfl ?_
      walk_at "r"
      refine wF (decide_eq_false (by decide)) ?_
      walk_at "r"
      refine l_ixT (W'.gr.sqT ((Gr.of s).sqT hvw)) rfl ?_
      walk_at "r"
      refine wT (decide_eq_true rfl) ?_
      walk_at "r"
      refine l_ixT (W'.gr.sqT ((Gr.of s).sqT hvw)) rfl ?_
      walk_at "r"
      refine wD (fun h => ?_) (fun h => ?_)
      · have h94 : n = 94 := one1.mp h
        walk_at "r"
        refine l_addX (by simp; omega) ?_
        walk_at "r"
        exact fin _ F' H' _ (Same.refl F') (by subst h94; rfl) W'
      · have h94 : n ≠ 94 := fun z => h (one1.mpr z)
        walk_at "r"
        refine l_ixT (W'.gr.sqT ((Gr.of s).sqT hvw)) rfl ?_
        refine l_addX (by simp; omega) ?_
        walk_at "r"
        refine fin _ F' H' _ (Same.refl F') ?_ W'
        show _ = _ ++ (if n = 94 then [94, 94] else [n])
        rw [if_neg h94]
    | fin =>
      rw [ht] at hvw fin
      refine l_ixT (W'.gr.sqT ((Gr.of s).sqT hvw)) rfl ?_
      walk_at "r"
      refine wT (decide_eq_true rfl) ?_
      walk_at "r"
      refine l_addX (by simp; omega) ?_
      walk_at "r"
      exact fin _ F' H' _ (Same.refl F') rfl W'
    | act w ns =>
      rw [ht] at hvw fin hfew
      obtain ⟨q, h1, h2⟩ := hvw
      refine l_ixT (W'.gr.sqT ((Gr.of s).sqT h1)) rfl ?_
      walk_at "r"
      refine wF (decide_eq_false (by decide)) ?_
      walk_at "r"
      refine l_ixT (W'.gr.sqT ((Gr.of s).sqT h1)) rfl ?_
      walk_at "r"
      refine wF (decide_eq_false (by decide)) ?_
      walk_at "r"
      refine l_ixT (W'.gr.sqT ((Gr.of s).sqT h1)) rfl ?_
      walk_at "r"
      rw [isSmall_mem']
      refine w2 (fun hsm => ?_) (fun hsm => ?_)
      · walk_at "r"
        refine l_addX (by simp; omega) ?_
        walk_at "r"
        refine l_ixT (W'.gr.sqT ((Gr.of s).sqT h1)) rfl ?_
        refine l_addX (by simp; omega) ?_
        walk_at "r"
        refine fin _ F' H' _ (Same.refl F') ?_ W'
        show _ = _ ++ (if isSmall w then [94, w] else [94, w, 40] ++ (TL.joinL [44] (ns.map TL.numL) ++ [41]))
        rw [if_pos hsm]; simp
      · walk_at "r"
        refine l_addX (by simp; omega) ?_
        walk_at "r"
        refine l_ixT (W'.gr.sqT ((Gr.of s).sqT h1)) rfl ?_
        refine l_addX (by simp; omega) ?_
        walk_at "r"
        refine l_addX (by simp; omega) ?_
        refine x_nums (F := F') W' ((Gr.of s).sqT h2) hfew (by show 3 < 4; decide) (fun R hR => ?_) (fun F4 H4 s4 W4 => ?_)
        · walk_at "r"
          exact l_ixT (W'.gr.sqT ((Gr.of s).sqT h1)) rfl hR
        have hjl := joinL_len (sep := [44]) (b := 4) (ls := ns.map TL.numL) fun l hl => by obtain ⟨n, hn, rfl⟩ := List.mem_map.mp hl; exact numL_len4 (hfew.2 n hn)
        rw [List.length_map] at hjl
        have h4 : ns.length ≤ 4 := hfew.1
        have hl1 : ([44] : List Nat).length = 1 := rfl
        rw [hl1] at hjl
        refine l_addX (by simp; omega) ?_
        walk_at "r"
        refine l_addX (by simp; omega) ?_
        walk_at "r"
        refine fin _ F4 H4 _ s4 ?_ W4
        show _ = _ ++ (if isSmall w then [94, w] else [94, w, 40] ++ (TL.joinL [44] (ns.map TL.numL) ++ [41]))
        rw [if_neg (by rw [hsm]; decide)]
        simp
  · rintro σ H' ⟨s2, s3, F', rfl, s, W'⟩
    walk_at "r"
    rw [hxl, List.take_length]
    exact kk F' H' s W'
end
end Ss
/-! ## What is written is told again (plain) -/
namespace Ss
open PySem PySem.Spec PyProof.Rows L2
/-- a thing that is told so -/
def Tk.Good : Tk → Prop
  | .sign n => isSign n = true ∧ n ≠ 10
  | .fin => True
  | .act w ns => (isSmall w = true ∧ ns = []) ∨ (isGreat w = true ∧ ns.length ≤ 4 ∧ ∀ n ∈ ns, n ≤ 9999)
theorem Tk.Good.few {t : Tk} (h : t.Good) : t.Few := by
  cases t with
  | sign n => trivial
  | fin => trivial
  | act w ns =>
    rcases h with ⟨_, rfl⟩ | ⟨_, h⟩
    · exact ⟨by simp, by simp⟩
    · exact h
theorem read_some {r : Rdr} {n : Nat} {p : Pre} {ts : List Tk} (h : r.pre.step n = some (p, ts)) : r.read n = (⟨p, r.lost⟩, ts) := by
  unfold Rdr.read
  have hp : r.pre ≠ .no := fun z => by rw [z] at h; cases h
  rw [if_neg hp, h]
theorem feed_cons (r : Rdr) (n : Nat) (l : List Nat) : r.feed (n :: l) = ((r.read n).1.feed l |>.1, (r.read n).2 ++ ((r.read n).1.feed l).2) := rfl
theorem feed_nil (r : Rdr) : r.feed [] = (r, []) := rfl
theorem step_fig {g : Nat} {ps : List (List Nat)} {la : List Nat} {n : Nat} (hn : isFig n = true) (hl : la.length < 4) : (Pre.op g ps la).step n = some (.op g ps (la ++ [n]), []) := by
  unfold Pre.step
  dsimp only
  rw [if_pos hn, if_pos hl]
theorem feed_figs {g : Nat} {ps : List (List Nat)} {k : Nat} : ∀ {l la : List Nat} (m : List Nat), (∀ x ∈ l, isFig x = true) → la.length + l.length ≤ 4 → Rdr.feed ⟨.op g ps la, k⟩ (l ++ m) = Rdr.feed ⟨.op g ps (la ++ l), k⟩ m
  | [], la, m, _, _ => by simp
  | n :: l, la, m, h, hl => by
    rw [List.length_cons] at hl
    rw [List.cons_append, feed_cons, read_some (step_fig (h n List.mem_cons_self) (by omega))]
    dsimp only
    rw [feed_figs (l := l) (la := la ++ [n]) m (fun x hx => h x (List.mem_cons_of_mem _ hx)) (by rw [List.length_append]; simp; omega)]
    simp
theorem feed_parts {g k : Nat} : ∀ {parts : List (List Nat)} {ps : List (List Nat)}, parts ≠ [] → (∀ p ∈ parts, p ≠ [] ∧ figsOk p) → ps.length + parts.length ≤ 4 →
    Rdr.feed ⟨.op g ps [], k⟩ (TL.joinL [44] parts ++ [41]) = (⟨.no, k⟩, [.act g ((ps ++ parts).map NumText.digitsVal)])
  | [], _, h, _, _ => absurd rfl h
  | [p], ps, _, h, hl => by
    have hp := h p List.mem_cons_self
    show Rdr.feed ⟨.op g ps [], k⟩ (p ++ [41]) = _
    rw [feed_figs [41] hp.2.2 (by simpa using hp.2.1), List.nil_append, feed_cons, read_some (p := .no) (ts := [.act g ((ps ++ [p]).map NumText.digitsVal)])]
    · rfl
    · unfold Pre.step
      dsimp only
      rw [if_neg (by decide), if_neg (by decide), if_pos ⟨rfl, .inl hp.1⟩, if_neg (fun z => hp.1 z.2)]
  | p :: q :: r, ps, _, h, hl => by
    have hp := h p List.mem_cons_self
    rw [List.length_cons, List.length_cons] at hl
    have e : TL.joinL [44] (p :: q :: r) ++ [41] = p ++ (44 :: (TL.joinL [44] (q :: r) ++ [41])) := by
      show (p ++ ([44] ++ TL.joinL [44] (q :: r))) ++ [41] = _
      simp
    rw [e, feed_figs _ hp.2.2 (by simpa using hp.2.1), List.nil_append, feed_cons, read_some (p := .op g (ps ++ [p]) []) (ts := [])]
    · dsimp only
      rw [feed_parts (parts := q :: r) (ps := ps ++ [p]) (by simp) (fun x hx => h x (List.mem_cons_of_mem _ hx)) (by simp; omega)]
      simp
    · unfold Pre.step
      dsimp only
      rw [if_neg (by decide), if_pos rfl, if_pos ⟨hp.1, by omega⟩]
theorem num_figs (n : Nat) (h : n ≤ 9999) : TL.numL n ≠ [] ∧ figsOk (TL.numL n) := ⟨TL.numL_ne n, numL_len4 h, fun x hx => by
  have := TL.numL_digits n x hx
  unfold isFig
  simp
  omega⟩
theorem feed_good {t : Tk} (h : t.Good) (k : Nat) : Rdr.feed ⟨.no, k⟩ t.text = (⟨.no, k⟩, [t]) := by
  cases t with
  | sign n =>
    show Rdr.feed ⟨.no, k⟩ (if n = 94 then [94, 94] else [n]) = _
    by_cases h94 : n = 94
    · subst h94; rfl
    · rw [if_neg h94, feed_cons]
      have e : Rdr.read ⟨.no, k⟩ n = (⟨.no, k⟩, [.sign n]) := by
        unfold Rdr.read
        rw [if_pos rfl]
        unfold plain
        rw [if_neg h94, if_neg h.2]
      rw [e]; rfl
  | fin => rfl
  | act w ns =>
    show Rdr.feed ⟨.no, k⟩ (if isSmall w then [94, w] else [94, w, 40] ++ (TL.joinL [44] (ns.map TL.numL) ++ [41])) = _
    rcases h with ⟨h1, rfl⟩ | ⟨h1, h2, h3⟩
    · rw [if_pos h1]
      have e : Rdr.feed ⟨.no, k⟩ [94, w] = (Rdr.feed ⟨.hat, k⟩ [w]) := rfl
      rw [e, feed_cons, read_some (p := .no) (ts := [.act w []])]
      · rfl
      · unfold Pre.step
        dsimp only
        rw [if_neg (fun z => by rw [z] at h1; exact absurd h1 (by decide)), if_pos h1]
    · have hns : isSmall w = false := by
        unfold isGreat at h1
        unfold isSmall
        simp at h1 ⊢
        omega
      rw [if_neg (by rw [hns]; decide)]
      have e : Rdr.feed ⟨.no, k⟩ ([94, w, 40] ++ (TL.joinL [44] (ns.map TL.numL) ++ [41])) = Rdr.feed ⟨.op w [] [], k⟩ (TL.joinL [44] (ns.map TL.numL) ++ [41]) := by
        have e1 : Rdr.feed ⟨.no, k⟩ ([94, w, 40] ++ (TL.joinL [44] (ns.map TL.numL) ++ [41])) = Rdr.feed ⟨.hat, k⟩ (w :: 40 :: (TL.joinL [44] (ns.map TL.numL) ++ [41])) := rfl
        rw [e1, feed_cons, read_some (p := .cap w) (ts := [])]
        · rw [feed_cons, read_some (p := .op w [] []) (ts := [])]
          · rfl
          · unfold Pre.step; dsimp only; rw [if_pos rfl]
        · unfold Pre.step
          dsimp only
          rw [if_neg (fun z => by rw [z] at h1; exact absurd h1 (by decide)), if_neg (by rw [hns]; decide), if_pos h1]
      rw [e]
      by_cases hn : ns = []
      · subst hn; rfl
      · rw [feed_parts (by simpa using hn) (fun p hp => by obtain ⟨n, hn, rfl⟩ := List.mem_map.mp hp; exact num_figs n (h3 n hn)) (by simpa using h2)]
        rw [List.nil_append, List.map_map]
        have : ns.map (NumText.digitsVal ∘ TL.numL) = ns := by
          refine (List.map_congr_left fun n _ => TL.numL_val n).trans ?_
          exact List.map_id _
        rw [this]
theorem feed_text {ts : List Tk} (h : ∀ t ∈ ts, t.Good) (k : Nat) : Rdr.feed ⟨.no, k⟩ (lawText ts) = (⟨.no, k⟩, ts) := by
  unfold lawText
  induction ts with
  | nil => rfl
  | cons t ts ih =>
    rw [List.flatMap_cons, feed_app, feed_good (h t List.mem_cons_self)]
    dsimp only
    rw [ih fun x hx => h x (List.mem_cons_of_mem _ hx)]
    rfl
/-- all signs of it are signs -/
theorem text_signs {t : Tk} (h : t.Good) : ∀ x ∈ t.text, isSign x = true := by
  have fig : ∀ n x, x ∈ TL.numL n → isSign x = true := fun n x hx => by
    have := TL.numL_digits n x hx
    unfold isSign
    simp
    omega
  have join : ∀ (ls : List (List Nat)), (∀ l ∈ ls, ∀ x ∈ l, isSign x = true) → ∀ x ∈ TL.joinL [44] ls, isSign x = true := by
    intro ls
    induction ls with
    | nil => intro _ x hx; cases hx
    | cons l ls ih =>
      intro hl x hx
      cases ls with
      | nil => exact hl l List.mem_cons_self x hx
      | cons m ls =>
        have hx' : x ∈ l ++ ([44] ++ TL.joinL [44] (m :: ls)) := hx
        rcases List.mem_append.mp hx' with hx | hx
        · exact hl l List.mem_cons_self x hx
        · rcases List.mem_append.mp hx with hx | hx
          · rw [List.mem_singleton.mp hx]; decide
          · exact ih (fun y hy => hl y (List.mem_cons_of_mem _ hy)) x hx
  cases t with
  | sign n =>
    intro x hx
    have hx' : x ∈ (if n = 94 then [94, 94] else [n]) := hx
    split at hx'
    · simp at hx'; rw [hx']; decide
    · rw [List.mem_singleton.mp hx']; exact h.1
  | fin => intro x hx; rw [List.mem_singleton.mp hx]; decide
  | act w ns =>
    intro x hx
    have hx' : x ∈ (if isSmall w then [94, w] else [94, w, 40] ++ (TL.joinL [44] (ns.map TL.numL) ++ [41])) := hx
    have hw : isSign w = true := by
      rcases h with ⟨h1, _⟩ | ⟨h1, _⟩
      · unfold isSmall at h1; unfold isSign; simp at h1 ⊢; omega
      · unfold isGreat at h1; unfold isSign; simp at h1 ⊢; omega
    split at hx'
    · rcases List.mem_cons.mp hx' with rfl | hx
      · decide
      · rw [List.mem_singleton.mp hx]; exact hw
    · rcases List.mem_append.mp hx' with hx | hx
      · rcases List.mem_cons.mp hx with rfl | hx
        · decide
        · rcases List.mem_cons.mp hx with rfl | hx
          · exact hw
          · rw [List.mem_singleton.mp hx]; decide
      · rcases List.mem_append.mp hx with hx | hx
        · exact join _ (fun l hl y hy => by obtain ⟨n, _, rfl⟩ := List.mem_map.mp hl; exact fig n y hy) x hx
        · rw [List.mem_singleton.mp hx]; decide
theorem lawText_signs {ts : List Tk} (h : ∀ t ∈ ts, t.Good) : ∀ x ∈ lawText ts, isSign x = true := fun x hx => by
  obtain ⟨t, ht, hx⟩ := List.mem_flatMap.mp hx
  exact text_signs (h t ht) x hx
/-! ### the laws' draws are good -/
theorem one_good (m : Nat) : (lawOne m).Good := by
  unfold lawOne
  split
  · have : ∀ i, i < 15 → isSign (oneSigns.getD i 0) = true ∧ oneSigns.getD i 0 ≠ 10 := by decide
    exact this _ (Nat.mod_lt _ (by decide))
  · split
    · trivial
    · split
      · have : ∀ i, i < 16 → isSmall (oneSmall.getD i 0) = true := by decide
        exact .inl ⟨this _ (Nat.mod_lt _ (by decide)), rfl⟩
      · have : ∀ i, i < 12 → isGreat (oneGreat.getD i 0) = true := by decide
        have hf := one_few m
        unfold lawOne at hf
        rw [if_neg (by assumption), if_neg (by assumption), if_neg (by assumption)] at hf
        exact .inr ⟨this _ (Nat.mod_lt _ (by decide)), hf⟩
theorem step_good (m j : Nat) : ∀ t ∈ lawStep m j, t.Good := by
  intro t ht
  unfold lawStep at ht
  rcases List.mem_append.mp ht with h | h
  · split at h
    · obtain ⟨n, _, rfl⟩ := List.mem_map.mp h
      have : ∀ i, i < 4 → isSign (runSigns.getD i 0) = true ∧ runSigns.getD i 0 ≠ 10 := by decide
      exact this _ (Nat.mod_lt _ (by decide))
    · cases h
  · rw [List.mem_singleton.mp h]; exact one_good _
theorem row_good (m many : Nat) : ∀ t ∈ lawRow m many, t.Good := by
  intro t ht
  obtain ⟨j, _, h⟩ := List.mem_flatMap.mp ht
  exact step_good m j t h
theorem lawText_app (a b : List Tk) : lawText (a ++ b) = lawText a ++ lawText b := by simp [lawText]
theorem step_text_len (m j : Nat) : (lawText (lawStep m j)).length ≤ 38 := by
  unfold lawStep
  rw [lawText_app, List.length_append]
  have h1 : (lawText [lawOne (drawn m j / 8)]).length ≤ 24 := by
    have := Tk.text_len (one_few (drawn m j / 8))
    simpa [lawText] using this
  have h2 : ∀ (l : List Nat), (lawText (l.map fun n => Tk.sign (runSigns.getD ((drawn m j / 8 + n) % 4) 0))).length ≤ l.length := by
    intro l
    induction l with
    | nil => simp [lawText]
    | cons n l ih =>
      have e : lawText ((n :: l).map fun n => Tk.sign (runSigns.getD ((drawn m j / 8 + n) % 4) 0)) = (Tk.sign (runSigns.getD ((drawn m j / 8 + n) % 4) 0)).text ++ lawText (l.map fun n => Tk.sign (runSigns.getD ((drawn m j / 8 + n) % 4) 0)) := by simp [lawText]
      rw [e, List.length_append, List.length_cons]
      have h3 : ∀ i, i < 4 → (Tk.sign (runSigns.getD i 0)).text.length = 1 := by decide
      rw [h3 _ (Nat.mod_lt _ (by decide))]
      omega
  split
  · have := h2 (List.range (drawn m j / 64 % 15))
    rw [List.length_range] at this
    omega
  · simp [lawText] at h1 ⊢; omega
theorem row_text_len (m many : Nat) : (lawText (lawRow m many)).length ≤ 38 * many := by
  have h : ∀ l : List Nat, (lawText (l.flatMap (lawStep m))).length ≤ 38 * l.length := by
    intro l
    induction l with
    | nil => simp [lawText]
    | cons j l ih =>
      rw [List.flatMap_cons, lawText_app, List.length_append, List.length_cons, Nat.mul_succ]
      have := step_text_len m j
      omega
  have := h (List.range (m % (many + 1)))
  rw [List.length_range] at this
  have h2 : m % (many + 1) ≤ many := by have := Nat.mod_lt m (show 0 < many + 1 by omega); omega
  exact Nat.le_trans this (Nat.mul_le_mul_left _ h2)
theorem Tk.sh {t : Tk} (h : t.Good) : Sh 2 t.data := by
  have small : ∀ x, isSign x = true → x < 1114112 := fun x hx => by unfold isSign at hx; simp at hx; omega
  cases t with
  | sign n =>
    refine (Sh.tup (k := 0) fun d hd => ?_).mono (by decide)
    rcases List.mem_cons.mp hd with rfl | hd
    · exact .str (by decide)
    · rw [List.mem_singleton.mp hd]; exact .str (by simpa using small n h.1)
  | fin =>
    refine (Sh.tup (k := 0) fun d hd => ?_).mono (by decide)
    rw [List.mem_singleton.mp hd]; exact .str (by decide)
  | act w ns =>
    have hw : w < 1114112 := by
      rcases h with ⟨h1, _⟩ | ⟨h1, _⟩
      · unfold isSmall at h1; simp at h1; omega
      · unfold isGreat at h1; simp at h1; omega
    refine Sh.tup (k := 1) fun d hd => ?_
    rcases List.mem_cons.mp hd with rfl | hd
    · exact .str (by decide)
    · rcases List.mem_cons.mp hd with rfl | hd
      · exact .str (by simpa using hw)
      · rw [List.mem_singleton.mp hd]
        exact .tup fun e he => by obtain ⟨n, _, rfl⟩ := List.mem_map.mp he; exact .int
theorem toks_sh {ts : List Tk} (h : ∀ t ∈ ts, t.Good) : Sh 3 (.list (ts.map Tk.data)) := .lst fun d hd => by
  obtain ⟨t, ht, rfl⟩ := List.mem_map.mp hd
  exact Tk.sh (h t ht)
end Ss
/-! ## Part 9: what the screens need beside -/
namespace Ss
open PySem PySem.Spec PyProof.Rows L2
/-! ### a field as a target -/
def gAttr (K : PySem.W.Frag) (ta : TE) (f : Str) : TG := fun v σ H Q => ta σ H fun x H1 => aPut K x v f H1 (Q σ)
theorem pg_attr {X : Cx} {o : Expr} {ta : TE} {f : Str} {pos : Pos} (ha : PE X o ta) : PG X (.Attribute o f pos) (gAttr X.K ta f) := by
  refine ⟨fun pins s σ H v u Q I r h => ?_⟩
  rw [assign_Attribute]
  refine wpAny_bind (wpAny_holding (thn (ha.run pins s σ H _ I h) fun ov s1 ⟨x, H1, I1, r1, a, C, dx, fs, ex, ea, c, n, l, q⟩ => ?_))
  subst ex
  obtain rfl : ov = Value.ref a := r1
  refine wpAny_bind (wpAny_standAt (wpAny_bind (wpAny_holding (setattr_ok I1 ea c n l r fun s3 I3 => ?_))))
  exact wpAny_release ⟨σ, _, I3, q⟩
/-! ### a method of a tuple that is not a module's -/
def tTM (K : PySem.W.Frag) (r : V → List V → Hp → VK → Prop) (to : TE) (t : TA) : TE := fun σ H Q => to σ H fun x H1 => (∃ a xs, x = .ref a ∧ SqT K H1 a xs) ∧ t σ H1 fun xs H2 => r x xs H2 Q
def u_tix (K : PySem.W.Frag) : V → List V → Hp → VK → Prop := fun x xs H Q => ∃ p, ∃ ys : List Str, ∃ z j, x = .ref p ∧ xs = [.str z] ∧ SqT K H p (ys.map V.str) ∧ ys[j]? = some z ∧ (∀ m, m < j → ys[m]? ≠ some z) ∧ Q (.int (j : Nat)) H
theorem pe_tix {X : Cx} {e : Expr} {es es0 : List Expr} {t0 t : TA} {x1} {pos0 apos cpos : Pos} (h0 : PA X es0 t0) (ha : PA X (e :: es) t)
    (hbase : attributeBase (.Tuple es0 x1 pos0) "index" X.env (eval (.Tuple es0 x1 pos0) X.env) = eval (.Tuple es0 x1 pos0) X.env := by rfl)
    (hfew : ((backTo cpos (starEach (e :: es) X.env)).all (fun x => !x.1) && (backToKw cpos (keywordEach [] X.env)).all (fun x => x.1.isSome)
      && decide ((e :: es).length + ([] : List Keyword).length + (if ([] : List Keyword).isEmpty then 0 else 1) < 30)) = true := by rfl)
    (hline : (apos.endLine == cpos.line) = true := by rfl) (hs : starEach (e :: es) X.env = (false, eval e X.env) :: starEach es X.env := by rfl) (hplain : (backTo cpos (starEach es X.env)).any (·.1) = false := by rfl) :
    PE X (.Call (.Attribute (.Tuple es0 x1 pos0) "index" apos) (e :: es) [] cpos) (tTM X.K (u_tix X.K) (tTup t0) t) := by
  refine ⟨fun pins s σ H Q I h => ?_⟩
  refine wpAny_Call_method_late hbase hfew hline rfl (wpAny_Tuple_spliced (thn (h0.run pos0 pins s σ H _ I h) fun us s1 ⟨xs, H1, I1, r, z, q⟩ => ⟨by rw [← r.length]; exact z, ?_⟩))
  have hf : H1 s1.heap.objs.size = none := I1.hok.fresh (Nat.le_refl _)
  have I2 : Inv X pins σ (upd H1 s1.heap.objs.size (.tup xs)) { s1 with heap := s1.heap.push { cls := .type "tuple", data := .seq us.toArray } } := I1.laid (t' := s1.toks) (fun b u e => Heap.get?_push_of_some _ e) (Nat.le_refl _) ⟨z, us, r, ⟨_, Heap.get?_push_size _ rfl, rfl, _, rfl⟩⟩
  refine ⟨"tuple", "tuple.index", PySem.F.plainAttrs_tuple, PySem.F.slot_tuple_index, PySem.F.type_tuple_index, ⟨_, Heap.get?_push_size _ rfl, rfl⟩, fun b eb => by cases eb; exact ⟨_, Heap.get?_push_size _ rfl, rfl⟩, ?_⟩
  have hA := ha.run cpos pins _ σ _ _ I2 (q _ hf).2
  rw [hs] at hA ⊢
  refine Calls.callWith_builtin (by show (false || (backTo cpos (starEach es X.env)).any (·.1)) = false; rw [hplain] <;> rfl) (Calls.evalArgs_plain ?_)
  exact thn hA fun us s2 ⟨vs, H2, I3, r2, q2⟩ => mt_tup_index pins s2 σ H2 (.ref s1.heap.objs.size) vs (.ref s1.heap.objs.size) us Q I3 rfl r2 q2
section
variable {K : PySem.W.Frag} {σ : L2.St} {H F : Hp} {L : List (Addr × HO)} {Q : VK} {to ti ta : TE} {t : TA} {v x y : V} {p q : Addr} {xs ys : List V} {lo hi : Option Int} {nx : L2.St → Hp → Prop} {QH : Hp → Prop}
theorem x_gattr {f : Str} (h : ta σ H fun x H1 => aPut K x v f H1 (nx σ)) : gAttr K ta f v σ H nx := h
theorem x_gsub {r : TSet} (h : to σ H fun o H1 => ti σ H1 fun i H2 => r o i v H2 fun H3 => nx σ H3) : gSub to ti r v σ H nx := h
theorem x_setL {n : Nat} (h : H p = some (.lst xs)) (hn : n < xs.length) (q : QH (upd H p (.lst (xs.set n v)))) : rSetL (.ref p) (.int (n : Int)) v H QH := by
  refine ⟨p, xs, n, n, rfl, rfl, h, ?_, q⟩
  unfold ixN
  rw [if_pos (by omega), if_pos (by omega)]
  simp
theorem x_tm {r : V → List V → Hp → VK → Prop} (h : to σ H fun x H1 => (∃ a xs, x = .ref a ∧ SqT K H1 a xs) ∧ t σ H1 fun xs H2 => r x xs H2 Q) : tTM K r to t σ H Q := h
/-- part of a tuple, wherever it lies -/
theorem n_slT (W : Hold F L H) (hp : SqT K F p xs) (k : ∀ (r : Addr) (F' H' : Hp), Same F F' → SqT K F' r (cutV xs lo hi) → Hold F' L H' → Q (.ref r) H') : uSl K (.ref p) lo hi H Q := by
  refine l_slT (W.gr.sqT hp) (fun h => ?_) fun _ => newF W fun r F' H' s h W' _ => k r F' H' s (st_of h) W'
  refine k p F H (Same.refl F) ?_ W
  have e : cutV xs lo hi = xs := by
    unfold cutV
    rw [h.1, h.2, List.drop_zero, Nat.sub_zero, List.take_length]
  rw [e]; exact hp
theorem n_addT (W : Hold F L H) (hp : SqT K F p xs) (hq : SqT K F q ys) (hl : xs.length + ys.length ≤ sizeLine) (k : ∀ (r : Addr) (F' H' : Hp), Same F F' → SqT K F' r (xs ++ ys) → Hold F' L H' → Q (.ref r) H') : uAdd K (.ref p) (.ref q) H Q := by
  refine l_addT (W.gr.sqT hp) (W.gr.sqT hq) hl (fun h => ?_) (fun _ h => ?_) fun _ _ => newF W fun r F' H' s h W' _ => k r F' H' s (st_of h) W'
  · subst h; exact k q F H (Same.refl F) hq W
  · subst h; exact k p F H (Same.refl F) (by rw [List.append_nil]; exact hp) W
end
/-- one's own are set down -/
theorem Hold.freezeL {F H : Hp} {L : List (Addr × HO)} : ∀ (l : List (Addr × HO)), Hold F (l ++ L) H → ∃ F', Same F F' ∧ Hold F' L H ∧ ∀ x ∈ l, F' x.1 = some x.2
  | [], W => ⟨F, Same.refl F, W, fun _ h => (nomatch h)⟩
  | (p, o) :: l, W => by
    have W' : Hold F ((p, o) :: (l ++ L)) H := W
    obtain ⟨F', s, W2, h⟩ := Hold.freezeL l W'.freeze
    refine ⟨F', W'.freezeS.trans s, W2, fun x hx => ?_⟩
    rcases List.mem_cons.mp hx with rfl | hx
    · exact s _ _ upd_same
    · exact h x hx
/-- A COMPREHENSION that makes own things: Pi tells of the items so far, of F and of one's own -/
theorem x_lcG {σ : L2.St} {F H : Hp} {L : List (Addr × HO)} {Q : VK} {J : It} {n : Nat} {item : Nat → V} {g : TG} {te : TE} {vs : List Nat} (ok : ItOk J F n item) (W : Hold F L H) (hn : n ≤ 100000) (Pi : Nat → List V → Hp → List (Addr × HO) → Prop) (h0 : Pi 0 [] F L)
    (step : ∀ (d : Addr × HO) i ys F' L' H' (QQ : VK), i < n → Same F F' → Pi i ys F' L' → Hold F' (L' ++ [d]) H' → (∀ y F4 L4 H4, Same F' F4 → Hold F4 (L4 ++ [d]) H4 → Pi (i + 1) (ys ++ [y]) F4 L4 → QQ y H4) → g (item i) (wipe σ vs) H' fun σ2 H2 => wipe σ2 vs = wipe σ vs ∧ te σ2 H2 QQ)
    (gm : ∀ x σ H (Q Q' : L2.St → Hp → Prop), (∀ σ' H', Q σ' H' → Q' σ' H') → g x σ H Q → g x σ H Q')
    (dn : ∀ (D : Addr) (ys : List V) (F' H' : Hp) (L' : List (Addr × HO)), Same F F' → ys.length = n → Pi n ys F' L' → Hold F' ((D, .lst ys) :: L') H' → Q (.ref D) H') : aLc J g tYes te vs σ H Q := by
  intro D hD
  refine ⟨fun i m H' => m = n - i ∧ i ≤ n ∧ ∃ ys F' L', Same F F' ∧ ys.length = i ∧ Pi i ys F' L' ∧ Hold F' ((D, .lst ys) :: L') H', ⟨n, by simp, Nat.zero_le _, [], F, L, Same.refl F, rfl, h0, W.make hD⟩, ?_⟩
  rintro i m H1 ⟨rfl, hi, ys, F1, L1, s1, hl, hv, W1⟩
  have q : Gr F H1 := (Gr.of s1).trans W1.gr
  by_cases hlt : i < n
  · refine .inr ⟨ok.go i H1 q hlt, fun H' => ∃ ys F' L', Same F F' ∧ ys.length = i + 1 ∧ Pi (i + 1) ys F' L' ∧ Hold F' ((D, .lst ys) :: L') H', fun H' p' => ⟨n - (i + 1), by omega, rfl, hlt, p'⟩, fun x H' y => ?_⟩
    obtain ⟨rfl, rfl⟩ := ok.yld i H1 x H' q hlt y
    have W2 : Hold F1 (L1 ++ [(D, .lst ys)]) H' := W1.perm (List.perm_append_singleton _ _).symm
    refine gm _ _ _ _ _ (fun σ2 H2 z => ⟨z.1, ?_⟩) (step (D, .lst ys) i ys F1 L1 H' (fun y H4 => ∃ acc, H4 D = some (.lst acc) ∧ acc.length < sizeLine ∧ (∃ ys F' L', Same F F' ∧ ys.length = i + 1 ∧ Pi (i + 1) ys F' L' ∧ Hold F' ((D, .lst ys) :: L') (upd H4 D (.lst (acc ++ [y]))))) hlt s1 hv W2 ?_)
    · exact x_yes (wT rfl z.2)
    · intro v F4 L4 H4 s4 W4 hv4
      have W5 : Hold F4 ((D, .lst ys) :: L4) H4 := W4.perm (List.perm_append_singleton _ _)
      exact ⟨ys, W5.get0, szlt (by omega), ys ++ [v], F4, L4, fun a o e => s4 a o (s1 a o e), by rw [List.length_append, hl]; rfl, hv4, W5.put0⟩
  · have e : i = n := by omega
    subst e
    exact .inl ⟨ok.stop H1 q, dn D ys F1 H1 L1 s1 hl hv W1⟩
/-- w in ('a', 'b', ..) -/
theorem inV_str (w : Nat) (l : List Nat) : inV (.str (T [w])) (l.map fun n => V.str (T [n])) = decide (w ∈ l) := by
  unfold inV
  rw [List.any_map, Bool.eq_iff_iff, List.any_eq_true, decide_eq_true_eq]
  constructor
  · rintro ⟨n, hn, h⟩
    have h' : decide (T [n] = T [w]) = true := h
    rw [decide_eq_true_eq, T_inj] at h'
    have : n = w := by simpa using h'
    rw [← this]; exact hn
  · intro h
    exact ⟨w, h, by show decide (T [w] = T [w]) = true; exact decide_eq_true rfl⟩
theorem flat_str (l : List Nat) : (l.map fun n => V.str (T [n])).all flatV = true := by
  rw [List.all_map]; exact List.all_eq_true.mpr fun _ _ => rfl
theorem l_inC {K : PySem.W.Frag} {H : Hp} {Q : VK} {p : Addr} {w : Nat} (l : List Nat) (h : SqT K H p (l.map fun n => V.str (T [n]))) (q : Q (.bl (decide (w ∈ l))) H) : uIn K (.str (T [w])) (.ref p) H Q :=
  l_inT (.inr h) rfl (flat_str l) (by rw [inV_str]; exact q)
theorem mul_T (l : List Nat) (k : Nat) : Txt.mul (T l) (k : Nat) = T (List.replicate k l).flatten := by
  unfold Txt.mul
  by_cases h1 : ((k : Nat) : Int) < 1
  · rw [if_pos h1, show k = 0 by omega]; rfl
  rw [if_neg h1]
  have fold : ∀ (n : Nat) (a : Array Nat), (List.replicate n (T l).cps).foldl (· ++ ·) a = (a.toList ++ (List.replicate n l).flatten).toArray := fun n => by
    induction n with
    | zero => intro a; simp
    | succ n ih =>
      intro a
      rw [List.replicate_succ, List.foldl_cons, ih, List.replicate_succ, List.flatten_cons]
      simp
  split
  · rename_i h
    rw [Bool.or_eq_true] at h
    rcases h with h | h
    · have : k = 1 := by simp at h; omega
      subst this; simp
    · have hl : l.length = 0 := by rw [← T_len]; simpa using h
      rw [List.length_eq_zero_iff.mp hl]
      have e : (List.replicate k ([] : List Nat)).flatten = [] := by
        rw [List.flatten_eq_nil_iff]; exact fun x hx => (List.mem_replicate.mp hx).2
      rw [e]
  · show Str.mk _ = Str.mk _
    rw [fold, Int.toNat_natCast]; simp
/-- a text so many times -/
theorem l_mulX {K : PySem.W.Frag} {H : Hp} {Q : VK} {l : List Nat} {k : Nat} (hk : k ≤ 100000) (hl : l.length ≤ 100) (h : Q (.str (T (List.replicate k l).flatten)) H) : uMul K (.str (T l)) (.int (k : Nat)) H Q :=
  l_mulS (by omega) (by omega) (by rw [T_len]; exact hl) (by rw [mul_T]; exact h)
end Ss
/-! ## the row's evaluation, ahead of all else -/
namespace Ss
open PySem PySem.Spec PyProof.Rows L2
def top (i : Nat) : Stmt := PySem.Challenge.pw_steerscreen_k41_whole_text_laid_anew.main.body.getD i (.Pass ⟨0, 0, 0, 0⟩)
abbrev st_is_sign : Stmt := top 15
abbrev st_need_text : Stmt := top 16
abbrev st_Reader_init : Stmt := inClass (top 17) 0
abbrev st_Reader_feed : Stmt := inClass (top 17) 3
abbrev st_Reader_plain : Stmt := inClass (top 17) 4
abbrev st_Reader_read : Stmt := inClass (top 17) 5
abbrev st_Reader_can_go_on : Stmt := inClass (top 17) 6
abbrev st_Reader_whole : Stmt := inClass (top 17) 7
abbrev st_is_count : Stmt := top 21
abbrev st_need_size : Stmt := top 28
abbrev st_Row_init : Stmt := inClass (top 29) 0
abbrev st_blank_row : Stmt := top 30
abbrev st_Screen_init : Stmt := inClass (top 31) 0
abbrev st_Screen_begin : Stmt := inClass (top 31) 1
abbrev st_Screen_texts : Stmt := inClass (top 31) 4
abbrev st_Screen_kept : Stmt := inClass (top 31) 5
abbrev st_Screen_cursor : Stmt := inClass (top 31) 6
abbrev st_Screen_feed : Stmt := inClass (top 31) 9
abbrev st_Screen_do : Stmt := inClass (top 31) 10
abbrev st_Screen_stand : Stmt := inClass (top 31) 11
abbrev st_Screen_put : Stmt := inClass (top 31) 12
abbrev st_Screen_roll : Stmt := inClass (top 31) 13
abbrev st_Screen_roll_down : Stmt := inClass (top 31) 14
abbrev st_Screen_cut_off : Stmt := inClass (top 31) 15
abbrev st_Screen_down : Stmt := inClass (top 31) 16
abbrev st_Screen_up : Stmt := inClass (top 31) 17
abbrev st_Screen_small : Stmt := inClass (top 31) 18
abbrev st_Screen_erase : Stmt := inClass (top 31) 19
abbrev st_Screen_great : Stmt := inClass (top 31) 20
abbrev st_Screen_one : Stmt := inClass (top 31) 21
abbrev st_Screen_take_rows : Stmt := inClass (top 31) 22
abbrev st_Screen_shift : Stmt := inClass (top 31) 23
abbrev st_Line_init : Stmt := inClass (top 33) 0
abbrev st_is_blank : Stmt := top 34
abbrev st_trimmed : Stmt := top 35
abbrev st_lines_of : Stmt := top 36
abbrev st_laid : Stmt := top 37
abbrev st_all_laid : Stmt := top 38
abbrev st_resize : Stmt := top 39
abbrev st__law_cell : Stmt := top 41
abbrev st__law_drawn : Stmt := top 42
abbrev st__law_rows : Stmt := top 43
abbrev st__law_right : Stmt := top 44
abbrev st_law : Stmt := top 45
def fa : List He.Fa := [.free "ord", .free "isinstance", .free "str", .free "len", .free "all", .free "tuple", .free "int", .free "bool", .free "range", .free "max", .free "min", .free "enumerate", .int "BARRED" 37, .str "GAP" ⟨#[10]⟩, .int "MOST_TEXT" 4000, .str "SMALL" ⟨#[97, 98, 99, 100, 101, 102, 103, 104, 105, 106, 107, 108, 109, 110, 111, 112, 113, 114, 115, 116, 117, 118, 119, 120, 121, 122]⟩, .str "GREAT" ⟨#[65, 66, 67, 68, 69, 70, 71, 72, 73, 74, 75, 76, 77, 78, 79, 80, 81, 82, 83, 84, 85, 86, 87, 88, 89, 90]⟩, .str "FIGURES" ⟨#[48, 49, 50, 51, 52, 53, 54, 55, 56, 57]⟩, .int "MOST_FIGURES" 4, .int "MOST_ARGUMENTS" 4, .glo "BLANK", .int "LEAST_HIGH" 2, .int "MOST_HIGH" 40, .int "LEAST_WIDE" 2, .int "MOST_WIDE" 60, .int "MOST_KEPT" 200, .glo "PLAIN", .glo "BadText", .exc "BadText", .glo "BadSize", .exc "BadSize", .glo "ScreenError", .glo "Reader", .cls "Reader", .mkr "Reader", .noat "Reader" "begun", .noat "Reader" "lost", .meth "Reader" "feed", .meth "Reader" "plain", .meth "Reader" "read", .meth "Reader" "can_go_on", .meth "Reader" "whole", .glo "Row", .cls "Row", .mkr "Row", .noat "Row" "cells", .noat "Row" "goes_on", .glo "Screen", .cls "Screen", .mkr "Screen", .noat "Screen" "reader", .noat "Screen" "wide", .noat "Screen" "high", .noat "Screen" "most", .noat "Screen" "past", .noat "Screen" "rows", .noat "Screen" "row", .noat "Screen" "column", .noat "Screen" "is_full", .noat "Screen" "pen", .noat "Screen" "top", .noat "Screen" "bottom", .noat "Screen" "put_by", .noat "Screen" "last", .meth "Screen" "begin", .meth "Screen" "texts", .meth "Screen" "kept", .meth "Screen" "cursor", .meth "Screen" "feed", .meth "Screen" "do", .meth "Screen" "stand", .meth "Screen" "put", .meth "Screen" "roll", .meth "Screen" "roll_down", .meth "Screen" "cut_off", .meth "Screen" "down", .meth "Screen" "up", .meth "Screen" "small", .meth "Screen" "erase", .meth "Screen" "great", .meth "Screen" "one", .meth "Screen" "take_rows", .meth "Screen" "shift", .glo "Line", .cls "Line", .mkr "Line", .noat "Line" "cells", .noat "Line" "place", .glo "is_sign", .glo "need_text", .glo "is_count", .glo "need_size", .glo "blank_row", .glo "is_blank", .glo "trimmed", .glo "lines_of", .glo "laid", .glo "all_laid", .glo "resize", .glo "_law_cell", .glo "_law_drawn", .glo "_law_rows", .glo "_law_right", .glo "law"]
def dd_is_sign : He.DefD := ⟨("is_sign", none), "is_sign", "is_sign", defArgs st_is_sign, defBody st_is_sign, defScope st_is_sign, [], []⟩
def dd_need_text : He.DefD := ⟨("need_text", none), "need_text", "need_text", defArgs st_need_text, defBody st_need_text, defScope st_need_text, [], []⟩
def dd_Reader_init : He.DefD := ⟨("Reader", some "__init__"), "__init__", "Reader.__init__", defArgs st_Reader_init, defBody st_Reader_init, defScope st_Reader_init, [], []⟩
def dd_Reader_feed : He.DefD := ⟨("Reader", some "feed"), "feed", "Reader.feed", defArgs st_Reader_feed, defBody st_Reader_feed, defScope st_Reader_feed, [], []⟩
def dd_Reader_plain : He.DefD := ⟨("Reader", some "plain"), "plain", "Reader.plain", defArgs st_Reader_plain, defBody st_Reader_plain, defScope st_Reader_plain, [], []⟩
def dd_Reader_read : He.DefD := ⟨("Reader", some "read"), "read", "Reader.read", defArgs st_Reader_read, defBody st_Reader_read, defScope st_Reader_read, [], []⟩
def dd_Reader_can_go_on : He.DefD := ⟨("Reader", some "can_go_on"), "can_go_on", "Reader.can_go_on", defArgs st_Reader_can_go_on, defBody st_Reader_can_go_on, defScope st_Reader_can_go_on, [], []⟩
def dd_Reader_whole : He.DefD := ⟨("Reader", some "whole"), "whole", "Reader.whole", defArgs st_Reader_whole, defBody st_Reader_whole, defScope st_Reader_whole, [], []⟩
def dd_is_count : He.DefD := ⟨("is_count", none), "is_count", "is_count", defArgs st_is_count, defBody st_is_count, defScope st_is_count, [], []⟩
def dd_need_size : He.DefD := ⟨("need_size", none), "need_size", "need_size", defArgs st_need_size, defBody st_need_size, defScope st_need_size, [], []⟩
def dd_Row_init : He.DefD := ⟨("Row", some "__init__"), "__init__", "Row.__init__", defArgs st_Row_init, defBody st_Row_init, defScope st_Row_init, [], []⟩
def dd_blank_row : He.DefD := ⟨("blank_row", none), "blank_row", "blank_row", defArgs st_blank_row, defBody st_blank_row, defScope st_blank_row, [], []⟩
def dd_Screen_init : He.DefD := ⟨("Screen", some "__init__"), "__init__", "Screen.__init__", defArgs st_Screen_init, defBody st_Screen_init, defScope st_Screen_init, [], []⟩
def dd_Screen_begin : He.DefD := ⟨("Screen", some "begin"), "begin", "Screen.begin", defArgs st_Screen_begin, defBody st_Screen_begin, defScope st_Screen_begin, [], []⟩
def dd_Screen_texts : He.DefD := ⟨("Screen", some "texts"), "texts", "Screen.texts", defArgs st_Screen_texts, defBody st_Screen_texts, defScope st_Screen_texts, [], []⟩
def dd_Screen_kept : He.DefD := ⟨("Screen", some "kept"), "kept", "Screen.kept", defArgs st_Screen_kept, defBody st_Screen_kept, defScope st_Screen_kept, [], []⟩
def dd_Screen_cursor : He.DefD := ⟨("Screen", some "cursor"), "cursor", "Screen.cursor", defArgs st_Screen_cursor, defBody st_Screen_cursor, defScope st_Screen_cursor, [], []⟩
def dd_Screen_feed : He.DefD := ⟨("Screen", some "feed"), "feed", "Screen.feed", defArgs st_Screen_feed, defBody st_Screen_feed, defScope st_Screen_feed, [], []⟩
def dd_Screen_do : He.DefD := ⟨("Screen", some "do"), "do", "Screen.do", defArgs st_Screen_do, defBody st_Screen_do, defScope st_Screen_do, [], []⟩
def dd_Screen_stand : He.DefD := ⟨("Screen", some "stand"), "stand", "Screen.stand", defArgs st_Screen_stand, defBody st_Screen_stand, defScope st_Screen_stand, [], []⟩
def dd_Screen_put : He.DefD := ⟨("Screen", some "put"), "put", "Screen.put", defArgs st_Screen_put, defBody st_Screen_put, defScope st_Screen_put, [], []⟩
def dd_Screen_roll : He.DefD := ⟨("Screen", some "roll"), "roll", "Screen.roll", defArgs st_Screen_roll, defBody st_Screen_roll, defScope st_Screen_roll, [], []⟩
def dd_Screen_roll_down : He.DefD := ⟨("Screen", some "roll_down"), "roll_down", "Screen.roll_down", defArgs st_Screen_roll_down, defBody st_Screen_roll_down, defScope st_Screen_roll_down, [], []⟩
def dd_Screen_cut_off : He.DefD := ⟨("Screen", some "cut_off"), "cut_off", "Screen.cut_off", defArgs st_Screen_cut_off, defBody st_Screen_cut_off, defScope st_Screen_cut_off, [], []⟩
def dd_Screen_down : He.DefD := ⟨("Screen", some "down"), "down", "Screen.down", defArgs st_Screen_down, defBody st_Screen_down, defScope st_Screen_down, [], []⟩
def dd_Screen_up : He.DefD := ⟨("Screen", some "up"), "up", "Screen.up", defArgs st_Screen_up, defBody st_Screen_up, defScope st_Screen_up, [], []⟩
def dd_Screen_small : He.DefD := ⟨("Screen", some "small"), "small", "Screen.small", defArgs st_Screen_small, defBody st_Screen_small, defScope st_Screen_small, [], []⟩
def dd_Screen_erase : He.DefD := ⟨("Screen", some "erase"), "erase", "Screen.erase", defArgs st_Screen_erase, defBody st_Screen_erase, defScope st_Screen_erase, [], []⟩
def dd_Screen_great : He.DefD := ⟨("Screen", some "great"), "great", "Screen.great", defArgs st_Screen_great, defBody st_Screen_great, defScope st_Screen_great, [], []⟩
def dd_Screen_one : He.DefD := ⟨("Screen", some "one"), "one", "Screen.one", defArgs st_Screen_one, defBody st_Screen_one, defScope st_Screen_one, [], []⟩
def dd_Screen_take_rows : He.DefD := ⟨("Screen", some "take_rows"), "take_rows", "Screen.take_rows", defArgs st_Screen_take_rows, defBody st_Screen_take_rows, defScope st_Screen_take_rows, [], []⟩
def dd_Screen_shift : He.DefD := ⟨("Screen", some "shift"), "shift", "Screen.shift", defArgs st_Screen_shift, defBody st_Screen_shift, defScope st_Screen_shift, [], []⟩
def dd_Line_init : He.DefD := ⟨("Line", some "__init__"), "__init__", "Line.__init__", defArgs st_Line_init, defBody st_Line_init, defScope st_Line_init, [], []⟩
def dd_is_blank : He.DefD := ⟨("is_blank", none), "is_blank", "is_blank", defArgs st_is_blank, defBody st_is_blank, defScope st_is_blank, [], []⟩
def dd_trimmed : He.DefD := ⟨("trimmed", none), "trimmed", "trimmed", defArgs st_trimmed, defBody st_trimmed, defScope st_trimmed, [], []⟩
def dd_lines_of : He.DefD := ⟨("lines_of", none), "lines_of", "lines_of", defArgs st_lines_of, defBody st_lines_of, defScope st_lines_of, [], []⟩
def dd_laid : He.DefD := ⟨("laid", none), "laid", "laid", defArgs st_laid, defBody st_laid, defScope st_laid, [], []⟩
def dd_all_laid : He.DefD := ⟨("all_laid", none), "all_laid", "all_laid", defArgs st_all_laid, defBody st_all_laid, defScope st_all_laid, [], []⟩
def dd_resize : He.DefD := ⟨("resize", none), "resize", "resize", defArgs st_resize, defBody st_resize, defScope st_resize, [], []⟩
def dd__law_cell : He.DefD := ⟨("_law_cell", none), "_law_cell", "_law_cell", defArgs st__law_cell, defBody st__law_cell, defScope st__law_cell, [], []⟩
def dd__law_drawn : He.DefD := ⟨("_law_drawn", none), "_law_drawn", "_law_drawn", defArgs st__law_drawn, defBody st__law_drawn, defScope st__law_drawn, [], []⟩
def dd__law_rows : He.DefD := ⟨("_law_rows", none), "_law_rows", "_law_rows", defArgs st__law_rows, defBody st__law_rows, defScope st__law_rows, [], []⟩
def dd__law_right : He.DefD := ⟨("_law_right", none), "_law_right", "_law_right", defArgs st__law_right, defBody st__law_right, defScope st__law_right, [], []⟩
def dd_law : He.DefD := ⟨("law", none), "law", "law", defArgs st_law, defBody st_law, defScope st_law, [], []⟩
def fn : List He.DefD := [dd_is_sign, dd_need_text, dd_Reader_init, dd_Reader_feed, dd_Reader_plain, dd_Reader_read, dd_Reader_can_go_on, dd_Reader_whole, dd_is_count, dd_need_size, dd_Row_init, dd_blank_row, dd_Screen_init, dd_Screen_begin, dd_Screen_texts, dd_Screen_kept, dd_Screen_cursor, dd_Screen_feed, dd_Screen_do, dd_Screen_stand, dd_Screen_put, dd_Screen_roll, dd_Screen_roll_down, dd_Screen_cut_off, dd_Screen_down, dd_Screen_up, dd_Screen_small, dd_Screen_erase, dd_Screen_great, dd_Screen_one, dd_Screen_take_rows, dd_Screen_shift, dd_Line_init, dd_is_blank, dd_trimmed, dd_lines_of, dd_laid, dd_all_laid, dd_resize, dd__law_cell, dd__law_drawn, dd__law_rows, dd__law_right, dd_law]
def tf : List He.Defn := [("law", none)]
abbrev Rw : PySem.W.OpenRow := PySem.W.OpenLaw.row PySem.Challenge.rw_steerscreen_k41_whole_text_laid_anew
def exK : PySem.W.Frag → Bool := fun K => He.tupB K "PLAIN" [.int 0, .int 0, .int 0] && He.tupB K "BLANK" [.str ⟨#[32]⟩, .glo "PLAIN"]
abbrev hkk : PySem.W.Hook := He.hookX 4 fa fn [] tf exK
def ob (s : PySem.W.SharedT) : He.AlX := He.obsX 4 fa fn [] tf exK (HandSHeadRun.getT s)
theorem ob_eq (s : PySem.W.SharedT) : ob s = hkk.obs s.abs := He.obsX_eq (HandSHeadRun.getT_eq s)
def loose : List Str := [("_wall" : Str), ("ScreenError" : Str), ("BadText" : Str), ("BadSize" : Str), ("BadPlace" : Str), ("is_sign" : Str), ("need_text" : Str), ("Reader" : Str), ("is_count" : Str), ("need_size" : Str), ("Row" : Str), ("blank_row" : Str), ("Screen" : Str), ("Line" : Str), ("is_blank" : Str), ("trimmed" : Str), ("lines_of" : Str), ("laid" : Str), ("all_laid" : Str), ("resize" : Str), ("_law_cell" : Str), ("_law_drawn" : Str), ("_law_rows" : Str), ("_law_right" : Str), ("MOST_TEXT" : Str), ("MOST_FIGURES" : Str), ("MOST_ARGUMENTS" : Str), ("SMALL" : Str), ("GREAT" : Str), ("FIGURES" : Str), ("BARRED" : Str), ("GAP" : Str), ("PLAIN" : Str), ("BLANK" : Str), ("MOST_WIDE" : Str), ("MOST_HIGH" : Str), ("MOST_KEPT" : Str), ("LEAST_WIDE" : Str), ("LEAST_HIGH" : Str)]
theorem run (w : World) : HandSHeadRun.RunEq Rw (PySem.W.view Rw.prog [45]) hkk ob 5000 loose w := by
  intro os
  kernel_rfl
end Ss
/-! ## Screens: the model, how it lies -/
namespace Ss
open PySem PySem.Spec PyProof.Rows L2
/-! ### the attributes of a Row -/
def fsRow (x0 x1 : V) : List (Str × V) := [("cells", x0), ("goes_on", x1)]
theorem fsRow_len {x0 x1 : V} : (fsRow x0 x1).length < 1000 := by show 2 < 1000; decide
theorem fsRow_g0 {x0 x1 : V} : (fsRow x0 x1).lookup ("cells" : Str) = some x0 := by kernel_rfl
theorem fsRow_p0 {x0 x1 y : V} : putF "cells" y (fsRow x0 x1) = fsRow y x1 := by kernel_rfl
theorem fsRow_g1 {x0 x1 : V} : (fsRow x0 x1).lookup ("goes_on" : Str) = some x1 := by kernel_rfl
theorem fsRow_p1 {x0 x1 y : V} : putF "goes_on" y (fsRow x0 x1) = fsRow x0 y := by kernel_rfl
/-- what is asked of the class -/
structure FRow (c : Ctx) : Prop where
  cl : Cls c.K c.cRow
  n_cells : NoAttr c.K c.cRow "cells"
  n_goes_on : NoAttr c.K c.cRow "goes_on"

/-! ### the attributes of a Screen -/
def fsScreen (x0 x1 x2 x3 x4 x5 x6 x7 x8 x9 x10 x11 x12 x13 : V) : List (Str × V) := [("reader", x0), ("wide", x1), ("high", x2), ("most", x3), ("past", x4), ("rows", x5), ("row", x6), ("column", x7), ("is_full", x8), ("pen", x9), ("top", x10), ("bottom", x11), ("put_by", x12), ("last", x13)]
theorem fsScreen_len {x0 x1 x2 x3 x4 x5 x6 x7 x8 x9 x10 x11 x12 x13 : V} : (fsScreen x0 x1 x2 x3 x4 x5 x6 x7 x8 x9 x10 x11 x12 x13).length < 1000 := by show 14 < 1000; decide
theorem fsScreen_g0 {x0 x1 x2 x3 x4 x5 x6 x7 x8 x9 x10 x11 x12 x13 : V} : (fsScreen x0 x1 x2 x3 x4 x5 x6 x7 x8 x9 x10 x11 x12 x13).lookup ("reader" : Str) = some x0 := by kernel_rfl
theorem fsScreen_p0 {x0 x1 x2 x3 x4 x5 x6 x7 x8 x9 x10 x11 x12 x13 y : V} : putF "reader" y (fsScreen x0 x1 x2 x3 x4 x5 x6 x7 x8 x9 x10 x11 x12 x13) = fsScreen y x1 x2 x3 x4 x5 x6 x7 x8 x9 x10 x11 x12 x13 := by kernel_rfl
theorem fsScreen_g1 {x0 x1 x2 x3 x4 x5 x6 x7 x8 x9 x10 x11 x12 x13 : V} : (fsScreen x0 x1 x2 x3 x4 x5 x6 x7 x8 x9 x10 x11 x12 x13).lookup ("wide" : Str) = some x1 := by kernel_rfl
theorem fsScreen_p1 {x0 x1 x2 x3 x4 x5 x6 x7 x8 x9 x10 x11 x12 x13 y : V} : putF "wide" y (fsScreen x0 x1 x2 x3 x4 x5 x6 x7 x8 x9 x10 x11 x12 x13) = fsScreen x0 y x2 x3 x4 x5 x6 x7 x8 x9 x10 x11 x12 x13 := by kernel_rfl
theorem fsScreen_g2 {x0 x1 x2 x3 x4 x5 x6 x7 x8 x9 x10 x11 x12 x13 : V} : (fsScreen x0 x1 x2 x3 x4 x5 x6 x7 x8 x9 x10 x11 x12 x13).lookup ("high" : Str) = some x2 := by kernel_rfl
theorem fsScreen_p2 {x0 x1 x2 x3 x4 x5 x6 x7 x8 x9 x10 x11 x12 x13 y : V} : putF "high" y (fsScreen x0 x1 x2 x3 x4 x5 x6 x7 x8 x9 x10 x11 x12 x13) = fsScreen x0 x1 y x3 x4 x5 x6 x7 x8 x9 x10 x11 x12 x13 := by kernel_rfl
theorem fsScreen_g3 {x0 x1 x2 x3 x4 x5 x6 x7 x8 x9 x10 x11 x12 x13 : V} : (fsScreen x0 x1 x2 x3 x4 x5 x6 x7 x8 x9 x10 x11 x12 x13).lookup ("most" : Str) = some x3 := by kernel_rfl
theorem fsScreen_p3 {x0 x1 x2 x3 x4 x5 x6 x7 x8 x9 x10 x11 x12 x13 y : V} : putF "most" y (fsScreen x0 x1 x2 x3 x4 x5 x6 x7 x8 x9 x10 x11 x12 x13) = fsScreen x0 x1 x2 y x4 x5 x6 x7 x8 x9 x10 x11 x12 x13 := by kernel_rfl
theorem fsScreen_g4 {x0 x1 x2 x3 x4 x5 x6 x7 x8 x9 x10 x11 x12 x13 : V} : (fsScreen x0 x1 x2 x3 x4 x5 x6 x7 x8 x9 x10 x11 x12 x13).lookup ("past" : Str) = some x4 := by kernel_rfl
theorem fsScreen_p4 {x0 x1 x2 x3 x4 x5 x6 x7 x8 x9 x10 x11 x12 x13 y : V} : putF "past" y (fsScreen x0 x1 x2 x3 x4 x5 x6 x7 x8 x9 x10 x11 x12 x13) = fsScreen x0 x1 x2 x3 y x5 x6 x7 x8 x9 x10 x11 x12 x13 := by kernel_rfl
theorem fsScreen_g5 {x0 x1 x2 x3 x4 x5 x6 x7 x8 x9 x10 x11 x12 x13 : V} : (fsScreen x0 x1 x2 x3 x4 x5 x6 x7 x8 x9 x10 x11 x12 x13).lookup ("rows" : Str) = some x5 := by kernel_rfl
theorem fsScreen_p5 {x0 x1 x2 x3 x4 x5 x6 x7 x8 x9 x10 x11 x12 x13 y : V} : putF "rows" y (fsScreen x0 x1 x2 x3 x4 x5 x6 x7 x8 x9 x10 x11 x12 x13) = fsScreen x0 x1 x2 x3 x4 y x6 x7 x8 x9 x10 x11 x12 x13 := by kernel_rfl
theorem fsScreen_g6 {x0 x1 x2 x3 x4 x5 x6 x7 x8 x9 x10 x11 x12 x13 : V} : (fsScreen x0 x1 x2 x3 x4 x5 x6 x7 x8 x9 x10 x11 x12 x13).lookup ("row" : Str) = some x6 := by kernel_rfl
theorem fsScreen_p6 {x0 x1 x2 x3 x4 x5 x6 x7 x8 x9 x10 x11 x12 x13 y : V} : putF "row" y (fsScreen x0 x1 x2 x3 x4 x5 x6 x7 x8 x9 x10 x11 x12 x13) = fsScreen x0 x1 x2 x3 x4 x5 y x7 x8 x9 x10 x11 x12 x13 := by kernel_rfl
theorem fsScreen_g7 {x0 x1 x2 x3 x4 x5 x6 x7 x8 x9 x10 x11 x12 x13 : V} : (fsScreen x0 x1 x2 x3 x4 x5 x6 x7 x8 x9 x10 x11 x12 x13).lookup ("column" : Str) = some x7 := by kernel_rfl
theorem fsScreen_p7 {x0 x1 x2 x3 x4 x5 x6 x7 x8 x9 x10 x11 x12 x13 y : V} : putF "column" y (fsScreen x0 x1 x2 x3 x4 x5 x6 x7 x8 x9 x10 x11 x12 x13) = fsScreen x0 x1 x2 x3 x4 x5 x6 y x8 x9 x10 x11 x12 x13 := by kernel_rfl
theorem fsScreen_g8 {x0 x1 x2 x3 x4 x5 x6 x7 x8 x9 x10 x11 x12 x13 : V} : (fsScreen x0 x1 x2 x3 x4 x5 x6 x7 x8 x9 x10 x11 x12 x13).lookup ("is_full" : Str) = some x8 := by kernel_rfl
theorem fsScreen_p8 {x0 x1 x2 x3 x4 x5 x6 x7 x8 x9 x10 x11 x12 x13 y : V} : putF "is_full" y (fsScreen x0 x1 x2 x3 x4 x5 x6 x7 x8 x9 x10 x11 x12 x13) = fsScreen x0 x1 x2 x3 x4 x5 x6 x7 y x9 x10 x11 x12 x13 := by kernel_rfl
theorem fsScreen_g9 {x0 x1 x2 x3 x4 x5 x6 x7 x8 x9 x10 x11 x12 x13 : V} : (fsScreen x0 x1 x2 x3 x4 x5 x6 x7 x8 x9 x10 x11 x12 x13).lookup ("pen" : Str) = some x9 := by kernel_rfl
theorem fsScreen_p9 {x0 x1 x2 x3 x4 x5 x6 x7 x8 x9 x10 x11 x12 x13 y : V} : putF "pen" y (fsScreen x0 x1 x2 x3 x4 x5 x6 x7 x8 x9 x10 x11 x12 x13) = fsScreen x0 x1 x2 x3 x4 x5 x6 x7 x8 y x10 x11 x12 x13 := by kernel_rfl
theorem fsScreen_g10 {x0 x1 x2 x3 x4 x5 x6 x7 x8 x9 x10 x11 x12 x13 : V} : (fsScreen x0 x1 x2 x3 x4 x5 x6 x7 x8 x9 x10 x11 x12 x13).lookup ("top" : Str) = some x10 := by kernel_rfl
theorem fsScreen_p10 {x0 x1 x2 x3 x4 x5 x6 x7 x8 x9 x10 x11 x12 x13 y : V} : putF "top" y (fsScreen x0 x1 x2 x3 x4 x5 x6 x7 x8 x9 x10 x11 x12 x13) = fsScreen x0 x1 x2 x3 x4 x5 x6 x7 x8 x9 y x11 x12 x13 := by kernel_rfl
theorem fsScreen_g11 {x0 x1 x2 x3 x4 x5 x6 x7 x8 x9 x10 x11 x12 x13 : V} : (fsScreen x0 x1 x2 x3 x4 x5 x6 x7 x8 x9 x10 x11 x12 x13).lookup ("bottom" : Str) = some x11 := by kernel_rfl
theorem fsScreen_p11 {x0 x1 x2 x3 x4 x5 x6 x7 x8 x9 x10 x11 x12 x13 y : V} : putF "bottom" y (fsScreen x0 x1 x2 x3 x4 x5 x6 x7 x8 x9 x10 x11 x12 x13) = fsScreen x0 x1 x2 x3 x4 x5 x6 x7 x8 x9 x10 y x12 x13 := by kernel_rfl
theorem fsScreen_g12 {x0 x1 x2 x3 x4 x5 x6 x7 x8 x9 x10 x11 x12 x13 : V} : (fsScreen x0 x1 x2 x3 x4 x5 x6 x7 x8 x9 x10 x11 x12 x13).lookup ("put_by" : Str) = some x12 := by kernel_rfl
theorem fsScreen_p12 {x0 x1 x2 x3 x4 x5 x6 x7 x8 x9 x10 x11 x12 x13 y : V} : putF "put_by" y (fsScreen x0 x1 x2 x3 x4 x5 x6 x7 x8 x9 x10 x11 x12 x13) = fsScreen x0 x1 x2 x3 x4 x5 x6 x7 x8 x9 x10 x11 y x13 := by kernel_rfl
theorem fsScreen_g13 {x0 x1 x2 x3 x4 x5 x6 x7 x8 x9 x10 x11 x12 x13 : V} : (fsScreen x0 x1 x2 x3 x4 x5 x6 x7 x8 x9 x10 x11 x12 x13).lookup ("last" : Str) = some x13 := by kernel_rfl
theorem fsScreen_p13 {x0 x1 x2 x3 x4 x5 x6 x7 x8 x9 x10 x11 x12 x13 y : V} : putF "last" y (fsScreen x0 x1 x2 x3 x4 x5 x6 x7 x8 x9 x10 x11 x12 x13) = fsScreen x0 x1 x2 x3 x4 x5 x6 x7 x8 x9 x10 x11 x12 y := by kernel_rfl
theorem fsScreen_m_begin {x0 x1 x2 x3 x4 x5 x6 x7 x8 x9 x10 x11 x12 x13 : V} : (fsScreen x0 x1 x2 x3 x4 x5 x6 x7 x8 x9 x10 x11 x12 x13).lookup ("begin" : Str) = none := by kernel_rfl
theorem fsScreen_m_size {x0 x1 x2 x3 x4 x5 x6 x7 x8 x9 x10 x11 x12 x13 : V} : (fsScreen x0 x1 x2 x3 x4 x5 x6 x7 x8 x9 x10 x11 x12 x13).lookup ("size" : Str) = none := by kernel_rfl
theorem fsScreen_m_page {x0 x1 x2 x3 x4 x5 x6 x7 x8 x9 x10 x11 x12 x13 : V} : (fsScreen x0 x1 x2 x3 x4 x5 x6 x7 x8 x9 x10 x11 x12 x13).lookup ("page" : Str) = none := by kernel_rfl
theorem fsScreen_m_texts {x0 x1 x2 x3 x4 x5 x6 x7 x8 x9 x10 x11 x12 x13 : V} : (fsScreen x0 x1 x2 x3 x4 x5 x6 x7 x8 x9 x10 x11 x12 x13).lookup ("texts" : Str) = none := by kernel_rfl
theorem fsScreen_m_kept {x0 x1 x2 x3 x4 x5 x6 x7 x8 x9 x10 x11 x12 x13 : V} : (fsScreen x0 x1 x2 x3 x4 x5 x6 x7 x8 x9 x10 x11 x12 x13).lookup ("kept" : Str) = none := by kernel_rfl
theorem fsScreen_m_cursor {x0 x1 x2 x3 x4 x5 x6 x7 x8 x9 x10 x11 x12 x13 : V} : (fsScreen x0 x1 x2 x3 x4 x5 x6 x7 x8 x9 x10 x11 x12 x13).lookup ("cursor" : Str) = none := by kernel_rfl
theorem fsScreen_m_state {x0 x1 x2 x3 x4 x5 x6 x7 x8 x9 x10 x11 x12 x13 : V} : (fsScreen x0 x1 x2 x3 x4 x5 x6 x7 x8 x9 x10 x11 x12 x13).lookup ("state" : Str) = none := by kernel_rfl
theorem fsScreen_m_cell {x0 x1 x2 x3 x4 x5 x6 x7 x8 x9 x10 x11 x12 x13 : V} : (fsScreen x0 x1 x2 x3 x4 x5 x6 x7 x8 x9 x10 x11 x12 x13).lookup ("cell" : Str) = none := by kernel_rfl
theorem fsScreen_m_feed {x0 x1 x2 x3 x4 x5 x6 x7 x8 x9 x10 x11 x12 x13 : V} : (fsScreen x0 x1 x2 x3 x4 x5 x6 x7 x8 x9 x10 x11 x12 x13).lookup ("feed" : Str) = none := by kernel_rfl
theorem fsScreen_m_do {x0 x1 x2 x3 x4 x5 x6 x7 x8 x9 x10 x11 x12 x13 : V} : (fsScreen x0 x1 x2 x3 x4 x5 x6 x7 x8 x9 x10 x11 x12 x13).lookup ("do" : Str) = none := by kernel_rfl
theorem fsScreen_m_stand {x0 x1 x2 x3 x4 x5 x6 x7 x8 x9 x10 x11 x12 x13 : V} : (fsScreen x0 x1 x2 x3 x4 x5 x6 x7 x8 x9 x10 x11 x12 x13).lookup ("stand" : Str) = none := by kernel_rfl
theorem fsScreen_m_put {x0 x1 x2 x3 x4 x5 x6 x7 x8 x9 x10 x11 x12 x13 : V} : (fsScreen x0 x1 x2 x3 x4 x5 x6 x7 x8 x9 x10 x11 x12 x13).lookup ("put" : Str) = none := by kernel_rfl
theorem fsScreen_m_roll {x0 x1 x2 x3 x4 x5 x6 x7 x8 x9 x10 x11 x12 x13 : V} : (fsScreen x0 x1 x2 x3 x4 x5 x6 x7 x8 x9 x10 x11 x12 x13).lookup ("roll" : Str) = none := by kernel_rfl
theorem fsScreen_m_roll_down {x0 x1 x2 x3 x4 x5 x6 x7 x8 x9 x10 x11 x12 x13 : V} : (fsScreen x0 x1 x2 x3 x4 x5 x6 x7 x8 x9 x10 x11 x12 x13).lookup ("roll_down" : Str) = none := by kernel_rfl
theorem fsScreen_m_cut_off {x0 x1 x2 x3 x4 x5 x6 x7 x8 x9 x10 x11 x12 x13 : V} : (fsScreen x0 x1 x2 x3 x4 x5 x6 x7 x8 x9 x10 x11 x12 x13).lookup ("cut_off" : Str) = none := by kernel_rfl
theorem fsScreen_m_down {x0 x1 x2 x3 x4 x5 x6 x7 x8 x9 x10 x11 x12 x13 : V} : (fsScreen x0 x1 x2 x3 x4 x5 x6 x7 x8 x9 x10 x11 x12 x13).lookup ("down" : Str) = none := by kernel_rfl
theorem fsScreen_m_up {x0 x1 x2 x3 x4 x5 x6 x7 x8 x9 x10 x11 x12 x13 : V} : (fsScreen x0 x1 x2 x3 x4 x5 x6 x7 x8 x9 x10 x11 x12 x13).lookup ("up" : Str) = none := by kernel_rfl
theorem fsScreen_m_small {x0 x1 x2 x3 x4 x5 x6 x7 x8 x9 x10 x11 x12 x13 : V} : (fsScreen x0 x1 x2 x3 x4 x5 x6 x7 x8 x9 x10 x11 x12 x13).lookup ("small" : Str) = none := by kernel_rfl
theorem fsScreen_m_erase {x0 x1 x2 x3 x4 x5 x6 x7 x8 x9 x10 x11 x12 x13 : V} : (fsScreen x0 x1 x2 x3 x4 x5 x6 x7 x8 x9 x10 x11 x12 x13).lookup ("erase" : Str) = none := by kernel_rfl
theorem fsScreen_m_great {x0 x1 x2 x3 x4 x5 x6 x7 x8 x9 x10 x11 x12 x13 : V} : (fsScreen x0 x1 x2 x3 x4 x5 x6 x7 x8 x9 x10 x11 x12 x13).lookup ("great" : Str) = none := by kernel_rfl
theorem fsScreen_m_one {x0 x1 x2 x3 x4 x5 x6 x7 x8 x9 x10 x11 x12 x13 : V} : (fsScreen x0 x1 x2 x3 x4 x5 x6 x7 x8 x9 x10 x11 x12 x13).lookup ("one" : Str) = none := by kernel_rfl
theorem fsScreen_m_take_rows {x0 x1 x2 x3 x4 x5 x6 x7 x8 x9 x10 x11 x12 x13 : V} : (fsScreen x0 x1 x2 x3 x4 x5 x6 x7 x8 x9 x10 x11 x12 x13).lookup ("take_rows" : Str) = none := by kernel_rfl
theorem fsScreen_m_shift {x0 x1 x2 x3 x4 x5 x6 x7 x8 x9 x10 x11 x12 x13 : V} : (fsScreen x0 x1 x2 x3 x4 x5 x6 x7 x8 x9 x10 x11 x12 x13).lookup ("shift" : Str) = none := by kernel_rfl
/-- what is asked of the class -/
structure FScreen (c : Ctx) : Prop where
  cl : Cls c.K c.cScreen
  n_reader : NoAttr c.K c.cScreen "reader"
  n_wide : NoAttr c.K c.cScreen "wide"
  n_high : NoAttr c.K c.cScreen "high"
  n_most : NoAttr c.K c.cScreen "most"
  n_past : NoAttr c.K c.cScreen "past"
  n_rows : NoAttr c.K c.cScreen "rows"
  n_row : NoAttr c.K c.cScreen "row"
  n_column : NoAttr c.K c.cScreen "column"
  n_is_full : NoAttr c.K c.cScreen "is_full"
  n_pen : NoAttr c.K c.cScreen "pen"
  n_top : NoAttr c.K c.cScreen "top"
  n_bottom : NoAttr c.K c.cScreen "bottom"
  n_put_by : NoAttr c.K c.cScreen "put_by"
  n_last : NoAttr c.K c.cScreen "last"

abbrev Pen : Type := Nat × Nat × Nat
def penData (p : Pen) : PyData := .tuple [.int (p.1 : Nat), .int (p.2.1 : Nat), .int (p.2.2 : Nat)]
structure Cell where
  sign : Nat
  pen : Pen
deriving DecidableEq
def Cell.data (x : Cell) : PyData := .tuple [.str (T [x.sign]), penData x.pen]
def plainPen : Pen := (0, 0, 0)
def blankCell : Cell := ⟨32, plainPen⟩
structure PRow where
  cells : List Cell
  goes : Bool
deriving DecidableEq
def blankRow (w : Nat) : PRow := ⟨List.replicate w blankCell, false⟩
structure Scr where
  rd : Rdr
  wide : Nat
  high : Nat
  most : Nat
  past : List PRow
  rows : List PRow
  row : Nat
  column : Nat
  full : Bool
  pen : Pen
  top : Nat
  bottom : Nat
  putBy : Nat × Nat × Pen
  last : Option Nat
namespace Scr
def rowAt (S : Scr) (i : Nat) : PRow := S.rows.getD i ⟨[], false⟩
def setRow (S : Scr) (i : Nat) (p : PRow) : Scr := { S with rows := S.rows.set i p }
def setGoes (S : Scr) (i : Nat) (b : Bool) : Scr := S.setRow i { S.rowAt i with goes := b }
def begin (S : Scr) : Scr := { S with rows := List.replicate S.high (blankRow S.wide), row := 0, column := 0, full := false, pen := plainPen, top := 0, bottom := S.high - 1, putBy := (0, 0, plainPen), last := none }
def new (w h m : Nat) : Scr := begin ⟨Rdr.new, w, h, m, [], [], 0, 0, false, plainPen, 0, 0, (0, 0, plainPen), none⟩
def stand (S : Scr) (r k : Int) : Scr := { S with row := (max 0 (min ((S.high : Int) - 1) r)).toNat, column := (max 0 (min ((S.wide : Int) - 1) k)).toNat, full := false }
def cutOff (S : Scr) (top : Nat) : Scr := (if 1 ≤ top then S.setGoes (top - 1) false else S).setGoes S.bottom false
def rolled (S : Scr) (top n : Nat) : Scr :=
  { S with past := if top = 0 then (S.past ++ S.rows.take n).drop (S.past.length + n - S.most) else S.past,
           rows := S.rows.take top ++ (S.rows.drop (top + n)).take (S.bottom + 1 - (top + n)) ++ List.replicate n (blankRow S.wide) ++ S.rows.drop (S.bottom + 1) }
def roll (S : Scr) (top many : Nat) : Scr := (S.rolled top (min many (S.bottom + 1 - top))).cutOff top
def rolledDown (S : Scr) (top n : Nat) : Scr :=
  { S with rows := S.rows.take top ++ List.replicate n (blankRow S.wide) ++ (S.rows.drop top).take (S.bottom + 1 - n - top) ++ S.rows.drop (S.bottom + 1) }
def rollDown (S : Scr) (top many : Nat) : Scr := (S.rolledDown top (min many (S.bottom + 1 - top))).cutOff top
def down (S : Scr) : Scr := if S.row = S.bottom then S.roll S.top 1 else if S.row < S.high - 1 then { S with row := S.row + 1 } else S
def up (S : Scr) : Scr := if S.row = S.top then S.rollDown S.top 1 else if 0 < S.row then { S with row := S.row - 1 } else S
def setCells (S : Scr) (cells : List Cell) : Scr := S.setRow S.row { S.rowAt S.row with cells := cells }
def next (S : Scr) : Scr := if S.column = S.wide - 1 then { S with full := true } else { S with column := S.column + 1 }
def wrap (S : Scr) : Scr := if S.full then (let S1 := (S.setGoes S.row (decide (S.row = S.bottom) || decide (S.row < S.high - 1))).down; S1.stand S1.row 0) else S
def type1 (S : Scr) (n : Nat) : Scr := next { S.setCells ((S.rowAt S.row).cells.set S.column ⟨n, S.pen⟩) with last := some n }
def put (S : Scr) (n : Nat) : Scr := S.wrap.type1 n
def erase (S : Scr) (w : Nat) : Scr :=
  let cells := (S.rowAt S.row).cells
  let S1 := if w = 101 then S.setCells (cells.take S.column ++ List.replicate (S.wide - S.column) blankCell)
    else if w = 98 then S.setCells (List.replicate (S.column + 1) blankCell ++ cells.drop (S.column + 1))
    else if w = 107 then S.setCells (List.replicate S.wide blankCell)
    else { S with rows := List.replicate S.high (blankRow S.wide) }
  { (if w = 98 then S1 else S1.setGoes S1.row false) with full := false }
def small (S : Scr) (w : Nat) : Scr :=
  if w = 117 then S.stand (S.row - 1) S.column else if w = 100 then S.stand (S.row + 1) S.column else if w = 108 then S.stand S.row (S.column - 1) else if w = 114 then S.stand S.row (S.column + 1)
  else if w = 104 then S.stand 0 0
  else if w = 110 then S.down.stand S.down.row S.down.column
  else if w = 112 then S.up.stand S.up.row S.up.column
  else if w = 101 ∨ w = 98 ∨ w = 107 ∨ w = 99 then S.erase w
  else if w = 115 then { S with putBy := (S.row, S.column, S.pen) }
  else if w = 116 then { S.stand S.putBy.1 S.putBy.2.1 with pen := S.putBy.2.2 }
  else if w = 122 then S.begin
  else S
def takeRows (S : Scr) (n : Nat) : Scr := { S.roll S.row n with past := S.past }
def shift (S : Scr) (w many : Nat) : Scr :=
  let cells := (S.rowAt S.row).cells
  let ahead := cells.take S.column
  let rest := cells.drop S.column
  let fresh := if w = 88 then ahead ++ rest.drop many ++ List.replicate many blankCell else ahead ++ List.replicate many blankCell ++ rest.take (rest.length - many)
  { (S.setCells fresh).setGoes S.row false with full := false }
def putMany (n : Nat) : Nat → Scr → Scr
  | 0, S => S
  | k + 1, S => putMany n k (S.put n)
def one (S : Scr) (w n : Nat) : Scr :=
  if w = 67 then (if n ≤ 7 then { S with pen := (n, S.pen.2) } else S)
  else if w = 66 then (if n ≤ 7 then { S with pen := (S.pen.1, n, S.pen.2.2) } else S)
  else if w = 77 then (if n ≤ 3 then { S with pen := (S.pen.1, S.pen.2.1, n) } else S)
  else if w = 88 ∨ w = 73 then S.shift w (min n (S.wide - S.column))
  else if (w = 68 ∨ w = 78) ∧ S.top ≤ S.row ∧ S.row ≤ S.bottom then
    (let S1 := if w = 68 then S.takeRows n else S.rollDown S.row n; S1.stand S1.row 0)
  else if w = 74 then (match S.last with
    | some l => putMany l (min n (S.wide * S.high)) S
    | none => S)
  else S
def great (S : Scr) (w : Nat) (ns : List Nat) : Scr :=
  match ns with
  | [a, b] => if w = 71 then S.stand a b else if w = 82 then (if a < b ∧ b < S.high then ({ S with top := a, bottom := b }).stand 0 0 else S) else S
  | [a] => S.one w a
  | _ => S
def act (S : Scr) : Tk → Scr
  | .sign n => S.put n
  | .fin => S.down.stand S.down.row 0
  | .act w ns => if isSmall w then S.small w else S.great w ns
def acts (S : Scr) (ts : List Tk) : Scr := ts.foldl act S
/-- a text comes -/
def fed (S : Scr) (l : List Nat) : Scr := Scr.acts { S with rd := (S.rd.feed l).1 } (S.rd.feed l).2
/-- what holds of every screen -/
structure Wf (S : Scr) : Prop where
  w1 : 2 ≤ S.wide
  w2 : S.wide ≤ 60
  h1 : 2 ≤ S.high
  h2 : S.high ≤ 40
  m : S.most ≤ 200
  rl : S.rows.length = S.high
  rw : ∀ p ∈ S.rows, p.cells.length = S.wide
  pl : S.past.length ≤ S.most
  pw : ∀ p ∈ S.past, p.cells.length = S.wide
  row : S.row < S.high
  column : S.column < S.wide
  tb : S.top ≤ S.bottom
  bh : S.bottom < S.high
  rd : S.rd.pre.Wf
end Scr
/-! ### how a row, a screen lies -/
structure RowC where
  a : Addr
  dx : Addr
  cl : Addr
  vals : List V
  row : PRow
abbrev rowO (c : Ctx) (dx cl : Addr) (g : Bool) : HO := .ins c.cRow dx (fsRow (.ref cl) (.bl g))
def ownR (c : Ctx) : List RowC → List (Addr × HO)
  | [] => []
  | r :: l => (r.a, rowO c r.dx r.cl r.row.goes) :: (r.cl, .lst r.vals) :: ownR c l
structure ScrC where
  dx : Addr
  r : Addr
  rdx : Addr
  pp : Addr
  pr : Addr
  penv : V
  pbv : V
  past : List RowC
  rows : List RowC
def lastV : Option Nat → V
  | none => .non
  | some n => .str (T [n])
abbrev scrO (c : Ctx) (C : ScrC) (S : Scr) : HO := .ins c.cScreen C.dx (fsScreen (.ref C.r) (.int (S.wide : Nat)) (.int (S.high : Nat)) (.int (S.most : Nat)) (.ref C.pp) (.ref C.pr) (.int (S.row : Nat)) (.int (S.column : Nat)) (.bl S.full) C.penv (.int (S.top : Nat)) (.int (S.bottom : Nat)) C.pbv (lastV S.last))
abbrev scrL (c : Ctx) (s : Addr) (C : ScrC) (S : Scr) (L : List (Addr × HO)) : List (Addr × HO) := (s, scrO c C S) :: (C.r, rdO c C.rdx S.rd) :: (ownR c C.rows ++ L)
abbrev rowRefs (l : List RowC) : List V := l.map fun r => .ref r.a
def cellsAt (c : Ctx) (F : Hp) (r : RowC) : Prop := DpAll c.K F r.vals (r.row.cells.map Cell.data)
structure ScrAt (c : Ctx) (F : Hp) (C : ScrC) (S : Scr) : Prop where
  wf : S.Wf
  rows : C.rows.map (·.row) = S.rows
  past : C.past.map (·.row) = S.past
  vals : ∀ r ∈ C.rows, cellsAt c F r
  pr : F C.pr = some (.lst (rowRefs C.rows))
  pp : F C.pp = some (.lst (rowRefs C.past))
  pin : ∀ r ∈ C.past, F r.a = some (rowO c r.dx r.cl r.row.goes) ∧ F r.cl = some (.lst r.vals) ∧ cellsAt c F r
  pen : Dp c.K F C.penv (penData S.pen)
  pb : ∃ q pv, C.pbv = .ref q ∧ SqT c.K F q [.int (S.putBy.1 : Nat), .int (S.putBy.2.1 : Nat), pv] ∧ Dp c.K F pv (penData S.putBy.2.2)
section
variable {c : Ctx} {F F' H : Hp} {C : ScrC} {S : Scr} {L : List (Addr × HO)} {i : Nat} {r r' : RowC}
theorem ScrAt.gr (g : Gr F F') (A : ScrAt c F C S) : ScrAt c F' C S :=
  ⟨A.wf, A.rows, A.past, fun r hr => g.dpAll (A.vals r hr), g.lst A.pr, g.lst A.pp, fun r hr => let ⟨a, b, d⟩ := A.pin r hr; ⟨g.ins a, g.lst b, g.dpAll d⟩, g.dp A.pen, let ⟨q, pv, a, b, d⟩ := A.pb; ⟨q, pv, a, g.sqT b, g.dp d⟩⟩
theorem ScrAt.len (A : ScrAt c F C S) : C.rows.length = S.high := by
  rw [← A.wf.rl, ← A.rows, List.length_map]
theorem ScrAt.plen (A : ScrAt c F C S) : C.past.length ≤ 200 := by
  have h : C.past.length = S.past.length := by rw [← A.past, List.length_map]
  rw [h]; exact Nat.le_trans A.wf.pl A.wf.m
theorem ScrAt.rowAt (A : ScrAt c F C S) (h : C.rows[i]? = some r) : S.rowAt i = r.row := by
  unfold Scr.rowAt
  rw [← A.rows, List.getD_eq_getElem?_getD, List.getElem?_map, h]; rfl
theorem ownR_app (l m : List RowC) : ownR c (l ++ m) = ownR c l ++ ownR c m := by
  induction l with
  | nil => rfl
  | cons r l ih => show _ :: _ :: ownR c (l ++ m) = _; rw [ih]; rfl
theorem ownR_out : ∀ {l : List RowC} {i : Nat}, l[i]? = some r → List.Perm (ownR c l) ((r.a, rowO c r.dx r.cl r.row.goes) :: (r.cl, .lst r.vals) :: ownR c (l.eraseIdx i))
  | [], _, h => (nomatch h)
  | x :: l, 0, h => by cases h; exact .refl _
  | x :: l, i + 1, h => by
    have ih := ownR_out (l := l) (i := i) h
    show List.Perm (_ :: _ :: ownR c l) (_ :: _ :: _ :: _ :: ownR c (l.eraseIdx i))
    exact ((ih.cons _).cons _).trans (List.perm_append_comm_assoc [_, _] [_, _] _)
theorem ownR_in : ∀ {l : List RowC} {i : Nat}, i < l.length → List.Perm (ownR c (l.set i r)) ((r.a, rowO c r.dx r.cl r.row.goes) :: (r.cl, .lst r.vals) :: ownR c (l.eraseIdx i)) := fun {l i} h => by
  have e : (l.set i r).eraseIdx i = l.eraseIdx i := List.eraseIdx_set_eq
  have z := ownR_out (c := c) (l := l.set i r) (i := i) (r := r) (by rw [List.getElem?_set_self h])
  rw [e] at z; exact z
/-- one row's two cells come to the front -/
theorem Hold.row (W : Hold F (ownR c C.rows ++ L) H) (h : C.rows[i]? = some r) : Hold F ((r.a, rowO c r.dx r.cl r.row.goes) :: (r.cl, .lst r.vals) :: (ownR c (C.rows.eraseIdx i) ++ L)) H :=
  W.perm ((ownR_out h).append_right L)
theorem Hold.rowBack (W : Hold F ((r'.a, rowO c r'.dx r'.cl r'.row.goes) :: (r'.cl, .lst r'.vals) :: (ownR c (C.rows.eraseIdx i) ++ L)) H) (h : i < C.rows.length) : Hold F (ownR c (C.rows.set i r') ++ L) H :=
  W.perm ((ownR_in h).symm.append_right L)
/-- the same behind two more -/
theorem Hold.row2 {x y : Addr × HO} (W : Hold F (x :: y :: (ownR c C.rows ++ L)) H) (h : C.rows[i]? = some r) : Hold F ((r.a, rowO c r.dx r.cl r.row.goes) :: (r.cl, .lst r.vals) :: x :: y :: (ownR c (C.rows.eraseIdx i) ++ L)) H :=
  W.perm (((((ownR_out h).append_right L).cons y).cons x).trans (List.perm_append_comm_assoc [x, y] [_, _] _))
theorem Hold.row2Back {x y : Addr × HO} (W : Hold F ((r'.a, rowO c r'.dx r'.cl r'.row.goes) :: (r'.cl, .lst r'.vals) :: x :: y :: (ownR c (C.rows.eraseIdx i) ++ L)) H) (h : i < C.rows.length) : Hold F (x :: y :: (ownR c (C.rows.set i r') ++ L)) H :=
  W.perm ((List.perm_append_comm_assoc [_, _] [x, y] _).trans ((((ownR_in h).symm.append_right L).cons y).cons x))
theorem map_set_same {rs : List RowC} (h : rs[i]? = some r) (ha : r'.a = r.a) : rowRefs (rs.set i r') = rowRefs rs := by
  unfold rowRefs
  rw [List.map_set]
  refine List.ext_getElem? fun j => ?_
  rw [List.getElem?_set]
  split
  · rename_i e; subst e
    split
    · rw [List.getElem?_map, h, ha]; rfl
    · rename_i hl
      rw [List.getElem?_eq_none (by simpa using hl)]
  · rfl
end
end Ss
/-! ## Screens: promises and readings -/
namespace Ss
open PySem PySem.Spec PyProof.Rows L2
open Ss in
local macro_rules | `(tactic| walk_at "fg") => `(tactic| first | with_reducible exact fsScreen_g0 | with_reducible exact fsScreen_g1 | with_reducible exact fsScreen_g2 | with_reducible exact fsScreen_g3 | with_reducible exact fsScreen_g4 | with_reducible exact fsScreen_g5 | with_reducible exact fsScreen_g6 | with_reducible exact fsScreen_g7 | with_reducible exact fsScreen_g8 | with_reducible exact fsScreen_g9 | with_reducible exact fsScreen_g10 | with_reducible exact fsScreen_g11 | with_reducible exact fsScreen_g12 | with_reducible exact fsScreen_g13 | with_reducible exact fsRow_g0 | with_reducible exact fsRow_g1 | with_reducible exact fsReader_g0 | with_reducible exact fsReader_g1)
open Ss in
local macro_rules | `(tactic| walk_at "r") => `(tactic| repeat (first
  | with_reducible refine x_seq ?_ | with_reducible refine x_asg ?_ | with_reducible refine x_var rfl ?_ | with_reducible refine x_c ?_ | with_reducible refine x_op ?_ | with_reducible refine x_name ?_ | with_reducible refine x_gcons ?_ | with_reducible refine x_gnil ?_
  | with_reducible refine x_cons ?_ | with_reducible refine x_nil ?_ | with_reducible refine x_cb ?_ | with_reducible refine x_ifs ?_ | with_reducible refine x_test ?_ | with_reducible refine x_bl ?_
  | with_reducible refine g_addNN ?_ | with_reducible refine g_addNL ?_ | with_reducible refine g_addLN ?_ | with_reducible refine l_addI ?_ | with_reducible refine l_subI ?_ | with_reducible refine g_ltNL ?_ | with_reducible refine l_ltI ?_ | with_reducible refine l_leI ?_ | with_reducible refine l_gtI ?_ | with_reducible refine l_geI ?_ | with_reducible refine l_eqX ?_ | with_reducible refine l_neX ?_ | with_reducible refine g_eqNL ?_ | with_reducible refine l_eqII ?_ | with_reducible refine l_neII ?_ | with_reducible refine l_eq rfl ?_ | with_reducible refine l_ne rfl ?_
  | with_reducible refine x_fld ?_ | with_reducible refine x_ret ?_ | with_reducible refine x_drop ?_ | with_reducible refine x_next ?_ | with_reducible refine x_tup ?_ | with_reducible refine x_lst ?_ | with_reducible refine x_f ?_ | with_reducible refine x_o ?_ | with_reducible refine x_n ?_
  | with_reducible refine x_bm ?_ | with_reducible refine x_bm0 ?_ | with_reducible refine x_m1 ?_ | with_reducible refine x_m0 ?_ | with_reducible refine x_isstr ?_ | with_reducible refine x_tystr ?_ | with_reducible refine x_sl ?_ | with_reducible refine x_part ?_ | with_reducible refine x_part' ?_ | with_reducible refine x_nopart ?_
  | with_reducible refine x_sfld ?_ | with_reducible refine x_if ?_ | with_reducible refine x_isty ?_ | with_reducible refine x_chain ?_ | with_reducible refine x_andV ?_ | with_reducible refine x_orV ?_ | with_reducible refine x_notV ?_ | with_reducible refine x_B ?_ | with_reducible refine x_and ?_ | with_reducible refine x_or ?_ | with_reducible refine x_not ?_ | with_reducible refine x_tru ?_ | with_reducible refine x_yes ?_
  | with_reducible refine x_un ?_ | with_reducible refine x_neg ?_ | with_reducible refine x_par ?_ | with_reducible refine x_par' ?_ | with_reducible refine x_retN ?_ | with_reducible refine x_brk ?_ | with_reducible refine x_cont ?_ | with_reducible refine x_rz ?_
  | with_reducible refine l_leS ?_ | with_reducible refine l_ltS ?_ | with_reducible refine l_inX ?_ | with_reducible refine l_niX ?_ | with_reducible refine l_inS ?_ | with_reducible refine l_niS ?_ | with_reducible refine l_count ?_ | with_reducible refine l_ord ?_ | with_reducible refine l_max ?_ | with_reducible refine l_min ?_ | with_reducible refine l_intI ?_ | with_reducible refine l_intB ?_ | with_reducible refine l_is ?_ | with_reducible refine l_isn ?_
  | with_reducible refine g_modNL (by decide) ?_ | with_reducible refine g_divNL (by decide) (by decide) ?_ | with_reducible refine l_modI (by decide) ?_ | with_reducible refine x_for ?_ | with_reducible refine x_lc ?_ | with_reducible refine x_ilist ?_ | with_reducible refine x_itup ?_ | with_reducible refine x_istr ?_ | with_reducible refine x_istr' ?_ | with_reducible refine x_irng1 ?_ | with_reducible refine x_irng2 ?_
  | (with_reducible refine x_get (by first | assumption | exact Hold.get0 (by assumption) | exact Hold.get1 (by assumption)) (by assumption) (by assumption) (by walk_at "fg") ?_)
  | (with_reducible refine x_ao (by first | assumption | exact Hold.get0 (by assumption) | exact Hold.get1 (by assumption)) (by kernel_rfl) ?_)
  | with_reducible refine x_ienum ?_ | with_reducible refine x_izip ?_ | with_reducible refine x_chain3 ?_
  | (with_reducible refine x_par2 ?_)
  | (with_reducible refine x_par3 ?_) | (with_reducible refine x_par3' ?_)))
abbrev v_PLAIN (c : Ctx) : V := .ref c.aPLAIN
abbrev v_BLANK (c : Ctx) : V := .ref c.aBLANK
abbrev v_MOST_WIDE (_ : Ctx) : V := .int 60
abbrev v_MOST_HIGH (_ : Ctx) : V := .int 40
abbrev v_MOST_KEPT (_ : Ctx) : V := .int 200
abbrev v_LEAST_WIDE (_ : Ctx) : V := .int 2
abbrev v_LEAST_HIGH (_ : Ctx) : V := .int 2
/-- the module's tuples -/
structure Tups (c : Ctx) : Prop where
  blank : ∀ F, Dp c.K F (.ref c.aBLANK) blankCell.data
  plain : ∀ F, Dp c.K F (.ref c.aPLAIN) (penData plainPen)
/-- behind the call the screen at s is S' -/
abbrev ScrTo (c : Ctx) (s : Addr) (F : Hp) (L : List (Addr × HO)) (S' : Scr) (Q : VK) : Prop := ∀ C' F' H', Same F F' → ScrAt c F' C' S' → Hold F' (scrL c s C' S' L) H' → Q .non H'
def sp_Row_init (c : Ctx) : Sp := fun vs H Q _ => ∃ a dx cl b F L, vs = [.ref a, .ref cl, .bl b] ∧ Hold F ((a, .ins c.cRow dx []) :: L) H ∧ ∀ H', Hold F ((a, rowO c dx cl b) :: L) H' → Q .non H'
def sp_blank_row (c : Ctx) : Sp := fun vs H Q _ => ∃ (w : Nat) (F : Hp) (L : List (Addr × HO)), vs = [.int (w : Nat)] ∧ w ≤ 60 ∧ Hold F L H ∧
  ∀ (r : RowC) F' H', Same F F' → r.row = blankRow w → cellsAt c F' r → Hold F' ((r.a, rowO c r.dx r.cl r.row.goes) :: (r.cl, .lst r.vals) :: L) H' → Q (.ref r.a) H'
/-- the screen lies so, wherever its cursor is told to be -/
def StandH (c : Ctx) (s : Addr) (C : ScrC) (S : Scr) (F : Hp) (L : List (Addr × HO)) (H : Hp) : Prop := ∃ r0 c0 : Nat, Hold F (scrL c s C { S with row := r0, column := c0 } L) H
theorem Hold.st {c : Ctx} {s : Addr} {C : ScrC} {S : Scr} {F H : Hp} {L : List (Addr × HO)} (W : Hold F (scrL c s C S L) H) : StandH c s C S F L H := ⟨S.row, S.column, W⟩
def sp_Screen_stand (c : Ctx) : Sp := fun vs H Q _ => ∃ (s : Addr) (C : ScrC) (S : Scr) (r : Int) (k : Int) (F : Hp) (L : List (Addr × HO)), vs = [.ref s, .int r, .int k] ∧ ScrAt c F C S ∧ StandH c s C S F L H ∧ ScrTo c s F L (S.stand r k) Q
def sp_Screen_cut_off (c : Ctx) : Sp := fun vs H Q _ => ∃ (s : Addr) (C : ScrC) (S : Scr) (top : Nat) (F : Hp) (L : List (Addr × HO)), vs = [.ref s, .int (top : Nat)] ∧ top ≤ S.high ∧ ScrAt c F C S ∧ Hold F (scrL c s C S L) H ∧ ScrTo c s F L (S.cutOff top) Q
def sp_Screen_roll (c : Ctx) : Sp := fun vs H Q _ => ∃ (s : Addr) (C : ScrC) (S : Scr) (top many : Nat) (F : Hp) (L : List (Addr × HO)), vs = [.ref s, .int (top : Nat), .int (many : Nat)] ∧ top ≤ S.bottom ∧ ScrAt c F C S ∧ Hold F (scrL c s C S L) H ∧ ScrTo c s F L (S.roll top many) Q
def sp_Screen_roll_down (c : Ctx) : Sp := fun vs H Q _ => ∃ (s : Addr) (C : ScrC) (S : Scr) (top many : Nat) (F : Hp) (L : List (Addr × HO)), vs = [.ref s, .int (top : Nat), .int (many : Nat)] ∧ top ≤ S.bottom ∧ ScrAt c F C S ∧ Hold F (scrL c s C S L) H ∧ ScrTo c s F L (S.rollDown top many) Q
def sp_Screen_down (c : Ctx) : Sp := fun vs H Q _ => ∃ (s : Addr) (C : ScrC) (S : Scr) (F : Hp) (L : List (Addr × HO)), vs = [.ref s] ∧ ScrAt c F C S ∧ Hold F (scrL c s C S L) H ∧ ScrTo c s F L S.down Q
def sp_Screen_up (c : Ctx) : Sp := fun vs H Q _ => ∃ (s : Addr) (C : ScrC) (S : Scr) (F : Hp) (L : List (Addr × HO)), vs = [.ref s] ∧ ScrAt c F C S ∧ Hold F (scrL c s C S L) H ∧ ScrTo c s F L S.up Q
def sp_Screen_put (c : Ctx) : Sp := fun vs H Q _ => ∃ (s : Addr) (C : ScrC) (S : Scr) (n : Nat) (F : Hp) (L : List (Addr × HO)), vs = [.ref s, .str (T [n])] ∧ ScrAt c F C S ∧ Hold F (scrL c s C S L) H ∧ ScrTo c s F L (S.put n) Q
/-- a screen that is not yet begun -/
def fsPart (r w h m p : V) : List (Str × V) := [("reader", r), ("wide", w), ("high", h), ("most", m), ("past", p)]
structure PreAt (c : Ctx) (F : Hp) (C : ScrC) (S : Scr) : Prop where
  w1 : 2 ≤ S.wide
  w2 : S.wide ≤ 60
  h1 : 2 ≤ S.high
  h2 : S.high ≤ 40
  m : S.most ≤ 200
  pl : S.past.length ≤ S.most
  pw : ∀ p ∈ S.past, p.cells.length = S.wide
  rd : S.rd.pre.Wf
  past : C.past.map (·.row) = S.past
  pp : F C.pp = some (.lst (rowRefs C.past))
  pin : ∀ r ∈ C.past, F r.a = some (rowO c r.dx r.cl r.row.goes) ∧ F r.cl = some (.lst r.vals) ∧ cellsAt c F r
def sp_Screen_begin (c : Ctx) : Sp := fun vs H Q _ => ∃ (s : Addr) (C : ScrC) (S : Scr) (fs : List (Str × V)) (F : Hp) (L : List (Addr × HO)), vs = [.ref s] ∧ ((.ins c.cScreen C.dx fs = scrO c C S) ∨ fs = fsPart (.ref C.r) (.int (S.wide : Nat)) (.int (S.high : Nat)) (.int (S.most : Nat)) (.ref C.pp)) ∧ PreAt c F C S ∧
  Hold F ((s, .ins c.cScreen C.dx fs) :: (C.r, rdO c C.rdx S.rd) :: L) H ∧ ScrTo c s F L S.begin Q
def sp_Screen_erase (c : Ctx) : Sp := fun vs H Q _ => ∃ (s : Addr) (C : ScrC) (S : Scr) (w : Nat) (F : Hp) (L : List (Addr × HO)), vs = [.ref s, .str (T [w])] ∧ ScrAt c F C S ∧ Hold F (scrL c s C S L) H ∧ ScrTo c s F L (S.erase w) Q
def sp_Screen_small (c : Ctx) : Sp := fun vs H Q _ => ∃ (s : Addr) (C : ScrC) (S : Scr) (w : Nat) (F : Hp) (L : List (Addr × HO)), vs = [.ref s, .str (T [w])] ∧ ScrAt c F C S ∧ Hold F (scrL c s C S L) H ∧ ScrTo c s F L (S.small w) Q
def sp_Screen_shift (c : Ctx) : Sp := fun vs H Q _ => ∃ (s : Addr) (C : ScrC) (S : Scr) (w : Nat) (many : Nat) (F : Hp) (L : List (Addr × HO)), vs = [.ref s, .str (T [w]), .int (many : Nat)] ∧ many ≤ S.wide - S.column ∧ ScrAt c F C S ∧ Hold F (scrL c s C S L) H ∧ ScrTo c s F L (S.shift w many) Q
def sp_Screen_take_rows (c : Ctx) : Sp := fun vs H Q _ => ∃ (s : Addr) (C : ScrC) (S : Scr) (n : Nat) (F : Hp) (L : List (Addr × HO)), vs = [.ref s, .int (n : Nat)] ∧ S.row ≤ S.bottom ∧ ScrAt c F C S ∧ Hold F (scrL c s C S L) H ∧ ScrTo c s F L (S.takeRows n) Q
def sp_Screen_one (c : Ctx) : Sp := fun vs H Q _ => ∃ (s : Addr) (C : ScrC) (S : Scr) (w : Nat) (n : Nat) (F : Hp) (L : List (Addr × HO)), vs = [.ref s, .str (T [w]), .int (n : Nat)] ∧ ScrAt c F C S ∧ Hold F (scrL c s C S L) H ∧ ScrTo c s F L (S.one w n) Q
def sp_Screen_great (c : Ctx) : Sp := fun vs H Q _ => ∃ (s : Addr) (C : ScrC) (S : Scr) (w : Nat) (ns : List Nat) (q : Addr) (F : Hp) (L : List (Addr × HO)), vs = [.ref s, .str (T [w]), .ref q] ∧ SqT c.K F q (ns.map fun (n : Nat) => V.int n) ∧ ScrAt c F C S ∧ Hold F (scrL c s C S L) H ∧ ScrTo c s F L (S.great w ns) Q
def sp_Screen_do (c : Ctx) : Sp := fun vs H Q _ => ∃ (s : Addr) (C : ScrC) (S : Scr) (t : Tk) (b : Addr) (F : Hp) (L : List (Addr × HO)), vs = [.ref s, .ref b] ∧ Dp c.K F (.ref b) (Tk.data t) ∧ ScrAt c F C S ∧ Hold F (scrL c s C S L) H ∧ ScrTo c s F L (S.act t) Q
def t_Row_init (c : Ctx) (E : XK) : TS :=
  (tSeq (sFld c.K (tVar 0) (tVar 1) "cells")
  (sFld c.K (tVar 0) (tVar 2) "goes_on"))
abbrev N_Row_init : List Str := ["self", "cells", "goes_on"]

def t_blank_row (c : Ctx) (E : XK) : TS :=
  (tRet (tN c.cRow (sp_Row_init c) E0 (tCons (tOp (uMul c.K) (tLst (tCons (tC (v_BLANK c)) tNil)) (tVar 0)) (tCons (tC (.bl false)) tNil))))
abbrev N_blank_row : List Str := ["wide"]

def t_Screen_stand (c : Ctx) (E : XK) : TS :=
  (tSeq (sFld c.K (tVar 0) (tCB uMax (tCons (tC (.int 0)) (tCons (tCB uMin (tCons (tOp uSub (tFld c.K (tVar 0) "high") (tC (.int 1))) (tCons (tVar 1) tNil))) tNil))) "row")
  (tSeq (sFld c.K (tVar 0) (tCB uMax (tCons (tC (.int 0)) (tCons (tCB uMin (tCons (tOp uSub (tFld c.K (tVar 0) "wide") (tC (.int 1))) (tCons (tVar 2) tNil))) tNil))) "column")
  (sFld c.K (tVar 0) (tC (.bl false)) "is_full")))
abbrev N_Screen_stand : List Str := ["self", "row", "column"]

def t_Screen_cut_off (c : Ctx) (E : XK) : TS :=
  (tFor (iTup c.K (tTup (tCons (tOp uSub (tVar 1) (tC (.int 1))) (tCons (tFld c.K (tVar 0) "bottom") tNil)))) (gName 2) (tIfS (tTest (tOp uGe (tVar 2) (tC (.int 0)))) (sFld c.K (tOp (uIx c.K) (tFld c.K (tVar 0) "rows") (tVar 2)) (tC (.bl false)) "goes_on") tNext))
abbrev N_Screen_cut_off : List Str := ["self", "top", "at"]

def t_Screen_roll (c : Ctx) (E : XK) : TS :=
  (tSeq (tAsg (tCB uMin (tCons (tVar 2) (tCons (tOp (uAdd c.K) (tOp uSub (tFld c.K (tVar 0) "bottom") (tVar 1)) (tC (.int 1))) tNil))) (gName 2))
  (C8.tCut (tIfS (tTest (tOp (uEq c.K) (tVar 1) (tC (.int 0)))) (sFld c.K (tVar 0) (tSl (uSl c.K) (tOp (uAdd c.K) (tFld c.K (tVar 0) "past") (tSl (uSl c.K) (tFld c.K (tVar 0) "rows") tNoPart (tPart (tVar 2)))) (tPart (tCB uMax (tCons (tC (.int 0)) (tCons (tOp uSub (tOp (uAdd c.K) (tCB (uLen c.K) (tCons (tFld c.K (tVar 0) "past") tNil)) (tVar 2)) (tFld c.K (tVar 0) "most")) tNil)))) tNoPart) "past") tNext) (tSeq (tAsg (tLc (iRng1 (tCons (tVar 2) tNil)) (gName 4) tYes (tF (sp_blank_row c) E0 (tCons (tFld c.K (tVar 0) "wide") tNil)) [4]) (gName 3))
  (tSeq (sFld c.K (tVar 0) (tOp (uAdd c.K) (tOp (uAdd c.K) (tOp (uAdd c.K) (tSl (uSl c.K) (tFld c.K (tVar 0) "rows") tNoPart (tPart (tVar 1))) (tSl (uSl c.K) (tFld c.K (tVar 0) "rows") (tPart (tOp (uAdd c.K) (tVar 1) (tVar 2))) (tPart (tOp (uAdd c.K) (tFld c.K (tVar 0) "bottom") (tC (.int 1)))))) (tVar 3)) (tSl (uSl c.K) (tFld c.K (tVar 0) "rows") (tPart (tOp (uAdd c.K) (tFld c.K (tVar 0) "bottom") (tC (.int 1)))) tNoPart)) "rows")
  (tDrop (tO c.cScreen "cut_off" (sp_Screen_cut_off c) E0 (tVar 0) (tCons (tVar 1) tNil)))))))
abbrev N_Screen_roll : List Str := ["self", "top", "many", "fresh", "at"]

def t_Screen_roll_down (c : Ctx) (E : XK) : TS :=
  (tSeq (tAsg (tCB uMin (tCons (tVar 2) (tCons (tOp (uAdd c.K) (tOp uSub (tFld c.K (tVar 0) "bottom") (tVar 1)) (tC (.int 1))) tNil))) (gName 2))
  (tSeq (tAsg (tLc (iRng1 (tCons (tVar 2) tNil)) (gName 4) tYes (tF (sp_blank_row c) E0 (tCons (tFld c.K (tVar 0) "wide") tNil)) [4]) (gName 3))
  (tSeq (tAsg (tSl (uSl c.K) (tFld c.K (tVar 0) "rows") (tPart (tVar 1)) (tPart (tOp uSub (tOp (uAdd c.K) (tFld c.K (tVar 0) "bottom") (tC (.int 1))) (tVar 2)))) (gName 5))
  (tSeq (sFld c.K (tVar 0) (tOp (uAdd c.K) (tOp (uAdd c.K) (tOp (uAdd c.K) (tSl (uSl c.K) (tFld c.K (tVar 0) "rows") tNoPart (tPart (tVar 1))) (tVar 3)) (tVar 5)) (tSl (uSl c.K) (tFld c.K (tVar 0) "rows") (tPart (tOp (uAdd c.K) (tFld c.K (tVar 0) "bottom") (tC (.int 1)))) tNoPart)) "rows")
  (tDrop (tO c.cScreen "cut_off" (sp_Screen_cut_off c) E0 (tVar 0) (tCons (tVar 1) tNil)))))))
abbrev N_Screen_roll_down : List Str := ["self", "top", "many", "fresh", "at", "left"]

def t_Screen_down (c : Ctx) (E : XK) : TS :=
  (tIfS (tTest (tOp (uEq c.K) (tFld c.K (tVar 0) "row") (tFld c.K (tVar 0) "bottom"))) (tDrop (tO c.cScreen "roll" (sp_Screen_roll c) E0 (tVar 0) (tCons (tFld c.K (tVar 0) "top") (tCons (tC (.int 1)) tNil)))) (tIfS (tTest (tOp uLt (tFld c.K (tVar 0) "row") (tOp uSub (tFld c.K (tVar 0) "high") (tC (.int 1))))) (sFld c.K (tVar 0) (tOp (uAdd c.K) (tFld c.K (tVar 0) "row") (tC (.int 1))) "row") tNext))
abbrev N_Screen_down : List Str := ["self"]

def t_Screen_up (c : Ctx) (E : XK) : TS :=
  (tIfS (tTest (tOp (uEq c.K) (tFld c.K (tVar 0) "row") (tFld c.K (tVar 0) "top"))) (tDrop (tO c.cScreen "roll_down" (sp_Screen_roll_down c) E0 (tVar 0) (tCons (tFld c.K (tVar 0) "top") (tCons (tC (.int 1)) tNil)))) (tIfS (tTest (tOp uGt (tFld c.K (tVar 0) "row") (tC (.int 0)))) (sFld c.K (tVar 0) (tOp uSub (tFld c.K (tVar 0) "row") (tC (.int 1))) "row") tNext))
abbrev N_Screen_up : List Str := ["self"]

section
variable {c : Ctx}
theorem rd_Row_init (R : FRow c) : RD N_Row_init (t_Row_init c) (sp_Row_init c) := by
  obtain ⟨cl, n1, n2⟩ := R
  rintro vs H Q E ⟨a, dx, x, b, F, L, rfl, W, kk⟩
  unfold t_Row_init
  walk_at "r"
  refine x_put0 W cl n1 (by show 0 < 1000; decide) rfl fun H1 W1 => ?_
  walk_at "r"
  refine x_put0 W1 cl n2 (by show 1 < 1000; decide) rfl fun H2 W2 => ?_
  walk_at "r"
  exact kk H2 W2
theorem dp_rep {K : PySem.W.Frag} {F : Hp} {v : V} {d : PyData} (h : Dp K F v d) : ∀ n, DpAll K F (List.replicate n v) (List.replicate n d)
  | 0 => .nil
  | n + 1 => .cons h (dp_rep h n)
theorem rd_blank_row (U : Tups c) : RD N_blank_row (t_blank_row c) (sp_blank_row c) := by
  rintro vs H Q E ⟨w, F, L, rfl, hw, W, kk⟩
  unfold t_blank_row
  walk_at "r"
  refine n_lstL W (sz rfl) fun p H1 W1 => ?_
  walk_at "r"
  refine n_mul1L W1 W1.get0 (by omega) (fun q H2 W2 => ?_) (by omega)
  rw [Int.toNat_natCast] at W2
  walk_at "r"
  have W3 : Hold F ((q, .lst (List.replicate w (.ref c.aBLANK))) :: L) H2 := W2.sub (List.Sublist.cons₂ _ (List.sublist_cons_self _ _))
  refine x_an W3 fun x dx H4 W4 => ?_
  refine ⟨x, dx, q, false, F, _, rfl, W4, fun H5 W5 => ⟨rfl, ?_⟩⟩
  refine kk ⟨x, dx, q, List.replicate w (.ref c.aBLANK), blankRow w⟩ F H5 (Same.refl F) rfl ?_ W5
  show DpAll c.K F _ ((List.replicate w blankCell).map Cell.data)
  rw [List.map_replicate]
  exact dp_rep (U.blank F) w
theorem stand_wf {S : Scr} (w : S.Wf) (r k : Int) : (S.stand r k).Wf := by
  have h1 := w.w1
  have h2 := w.h1
  exact ⟨w.w1, w.w2, w.h1, w.h2, w.m, w.rl, w.rw, w.pl, w.pw, by show (max 0 (min ((S.high : Int) - 1) r)).toNat < S.high; omega, by show (max 0 (min ((S.wide : Int) - 1) k)).toNat < S.wide; omega, w.tb, w.bh, w.rd⟩
theorem rd_Screen_stand (R : FScreen c) : RD N_Screen_stand (t_Screen_stand c) (sp_Screen_stand c) := by
  have cl := R.cl
  have n1 := R.n_row
  have n2 := R.n_column
  have n3 := R.n_is_full
  have n4 := R.n_high
  have n5 := R.n_wide
  rintro vs H Q E ⟨s, C, S, r, k, F, L, rfl, A, ⟨r0, c0, W⟩, kk⟩
  unfold t_Screen_stand
  walk_at "r"
  refine x_put0 W cl n1 fsScreen_len fsScreen_p6 fun H1 W1 => ?_
  walk_at "r"
  refine x_put0 W1 cl n2 fsScreen_len fsScreen_p7 fun H2 W2 => ?_
  walk_at "r"
  refine x_put0 W2 cl n3 fsScreen_len fsScreen_p8 fun H3 W3 => ?_
  walk_at "r"
  have wf := stand_wf A.wf r k
  have e1 : max 0 (min ((S.high : Int) - 1) r) = (((S.stand r k).row : Nat) : Int) := (Int.toNat_of_nonneg (by omega)).symm
  have e2 : max 0 (min ((S.wide : Int) - 1) k) = (((S.stand r k).column : Nat) : Int) := (Int.toNat_of_nonneg (by omega)).symm
  rw [e1, e2] at W3
  exact kk C F H3 (Same.refl F) ⟨wf, A.rows, A.past, A.vals, A.pr, A.pp, A.pin, A.pen, A.pb⟩ W3
theorem row_of {C : ScrC} {S : Scr} {F : Hp} {i : Nat} (A : ScrAt c F C S) (hi : i < S.high) : ∃ r, C.rows[i]? = some r ∧ (rowRefs C.rows).getD i .non = .ref r.a ∧ r ∈ C.rows ∧ S.rowAt i = r.row ∧ i < C.rows.length := by
  have hl : i < C.rows.length := by rw [A.len]; exact hi
  have h : C.rows[i]? = some C.rows[i] := List.getElem?_eq_getElem hl
  refine ⟨_, h, ?_, List.getElem_mem hl, A.rowAt h, hl⟩
  unfold rowRefs
  rw [List.getD_eq_getElem?_getD, List.getElem?_map, h]; rfl
theorem refs_len {C : ScrC} {S : Scr} {F : Hp} (A : ScrAt c F C S) : (rowRefs C.rows).length = S.high := by
  unfold rowRefs; rw [List.length_map, A.len]
/-- self.rows[i] -/
theorem x_rowIx {C : ScrC} {S : Scr} {F H : Hp} {L : List (Addr × HO)} {Q : VK} {i : Nat} {r : RowC} (A : ScrAt c F C S) (W : Hold F L H) (h : C.rows[i]? = some r) (q : Q (.ref r.a) H) : uIx c.K (.ref C.pr) (.int (i : Nat)) H Q := by
  have hi : i < (rowRefs C.rows).length := by unfold rowRefs; rw [List.length_map]; exact (List.getElem?_eq_some_iff.mp h).1
  refine g_ixL (sq_of (W.old _ _ A.pr)) hi ?_
  have e : (rowRefs C.rows).getD i .non = .ref r.a := by unfold rowRefs; rw [List.getD_eq_getElem?_getD, List.getElem?_map, h]; rfl
  rw [e]; exact q
theorem ScrAt.setRow {C : ScrC} {S : Scr} {F : Hp} {i : Nat} {r r' : RowC} (A : ScrAt c F C S) (h : C.rows[i]? = some r) (ha : r'.a = r.a) (hc : cellsAt c F r') (hl : r'.row.cells.length = S.wide) : ScrAt c F { C with rows := C.rows.set i r' } (S.setRow i r'.row) := by
  have w := A.wf
  refine ⟨⟨w.w1, w.w2, w.h1, w.h2, w.m, ?_, fun p hp => ?_, w.pl, w.pw, w.row, w.column, w.tb, w.bh, w.rd⟩, ?_, A.past, fun x hx => ?_, ?_, A.pp, A.pin, A.pen, A.pb⟩
  · show (S.rows.set i r'.row).length = S.high
    rw [List.length_set, w.rl]
  · rcases List.mem_or_eq_of_mem_set hp with h1 | rfl
    · exact w.rw p h1
    · exact hl
  · show (C.rows.set i r').map (·.row) = S.rows.set i r'.row
    rw [List.map_set, A.rows]
  · rcases List.mem_or_eq_of_mem_set hx with h1 | rfl
    · exact A.vals x h1
    · exact hc
  · show F C.pr = some (.lst (rowRefs (C.rows.set i r')))
    rw [map_set_same h ha]; exact A.pr
theorem setGoes_eq {C : ScrC} {S : Scr} {F : Hp} {i : Nat} {r : RowC} (A : ScrAt c F C S) (h : C.rows[i]? = some r) (b : Bool) : S.setGoes i b = S.setRow i { r.row with goes := b } := by
  unfold Scr.setGoes; rw [A.rowAt h]
/-- rows[i].goes_on = b -/
theorem x_goes {C : ScrC} {S : Scr} {F H : Hp} {L : List (Addr × HO)} {QH : Hp → Prop} {i : Nat} {r : RowC} {s : Addr} {b : Bool} (R : FRow c) (A : ScrAt c F C S) (W : Hold F (scrL c s C S L) H) (h : C.rows[i]? = some r)
    (k : ∀ C' H', ScrAt c F C' (S.setGoes i b) → Hold F (scrL c s C' (S.setGoes i b) L) H' → QH H') : aPut c.K (.ref r.a) (.bl b) "goes_on" H QH := by
  have hl : i < C.rows.length := (List.getElem?_eq_some_iff.mp h).1
  refine x_put0 (W.row2 h) R.cl R.n_goes_on fsRow_len fsRow_p1 fun H' W' => ?_
  refine k { C with rows := C.rows.set i { r with row := { r.row with goes := b } } } H' ?_ ?_
  · rw [setGoes_eq A h]
    exact A.setRow (r' := { r with row := { r.row with goes := b } }) h rfl (A.vals r (List.mem_of_getElem? h)) (A.wf.rw r.row (by rw [← A.rows]; exact List.mem_map_of_mem (List.mem_of_getElem? h)))
  · rw [setGoes_eq A h]
    exact Hold.row2Back (C := C) (r' := { r with row := { r.row with goes := b } }) W' hl
def cutN (S : Scr) (top : Nat) : Nat → Scr
  | 0 => S
  | 1 => if 1 ≤ top then S.setGoes (top - 1) false else S
  | _ => S.cutOff top
theorem rd_Screen_cut_off (R : FScreen c) (RR : FRow c) : RD N_Screen_cut_off (t_Screen_cut_off c) (sp_Screen_cut_off c) := by
  have cl := R.cl
  have n1 := R.n_bottom
  have n2 := R.n_rows
  rintro vs H Q E ⟨s, C, S, top, F, L, rfl, ht, A, W, kk⟩
  unfold t_Screen_cut_off
  walk_at "r"
  refine n_tupF W (sz rfl) fun p F1 H1 s1 h1 W1 => ?_
  refine x_itup' (st_of (W1.old _ _ h1)) ?_
  have hb := A.wf.bh
  refine x_forOk (F := F1) (ItOk.tup (st_of h1)) (fun i σ H' => ∃ s2 C', σ = [some (.ref s), some (.int (top : Nat)), s2] ∧ ScrAt c F1 C' (cutN S top i) ∧ Hold F1 (scrL c s C' (cutN S top i) L) H')
    (fun i σ H' _ ⟨_, _, _, _, W'⟩ => W'.gr) ⟨none, C, rfl, A.gr (Gr.of s1), W1⟩ ?_ ?_
  · rintro i σ H' hi ⟨s2, C', rfl, A', W'⟩
    have hi2 : i < 2 := hi
    rcases (show i = 0 ∨ i = 1 by omega) with rfl | rfl
    · show gName 2 (.int ((top : Int) - 1)) _ _ _
      walk_at "r"
      refine wD (fun h => ?_) (fun h => ?_)
      · have e : (top : Int) - 1 = ((top - 1 : Nat) : Int) := by omega
        rw [e]
        obtain ⟨r, h2, _⟩ := row_of A' (i := top - 1) (by show top - 1 < S.high; omega)
        walk_at "r"
        refine x_rowIx A' W' h2 ?_
        refine x_goes RR A' W' h2 fun C2 H2 A2 W2 => ?_
        have e2 : cutN S top 1 = (cutN S top 0).setGoes (top - 1) false := if_pos (show 1 ≤ top by omega)
        rw [← e2] at A2 W2
        exact ⟨_, C2, rfl, A2, W2⟩
      · walk_at "r"
        have e2 : cutN S top 1 = cutN S top 0 := if_neg (show ¬ 1 ≤ top by omega)
        rw [← e2] at A' W'
        exact ⟨_, C', rfl, A', W'⟩
    · show gName 2 (.int (S.bottom : Nat)) _ _ _
      walk_at "r"
      refine wD (fun h => ?_) (fun h => absurd (Int.natCast_nonneg _) h)
      have hh : (cutN S top 1).high = S.high := by show (if 1 ≤ top then S.setGoes (top - 1) false else S).high = S.high; split <;> rfl
      obtain ⟨r, h2, _⟩ := row_of A' (i := S.bottom) (by rw [hh]; exact hb)
      walk_at "r"
      refine x_rowIx A' W' h2 ?_
      refine x_goes RR A' W' h2 fun C2 H2 A2 W2 => ?_
      have e2 : cutN S top (1 + 1) = (cutN S top 1).setGoes S.bottom false := by
        show S.cutOff top = _
        rfl
      rw [← e2] at A2 W2
      exact ⟨_, C2, rfl, A2, W2⟩
  · rintro σ H' ⟨s2, C', rfl, A', W'⟩
    walk_at "r"
    exact kk C' F1 H' s1 A' W'
theorem ownR_perm {l m : List RowC} (h : List.Perm l m) : List.Perm (ownR c l) (ownR c m) := by
  induction h with
  | nil => exact .refl _
  | cons x _ ih => exact (ih.cons _).cons _
  | swap x y l => exact List.perm_append_comm_assoc [_, _] [_, _] _
  | trans _ _ a b => exact a.trans b
theorem ownR_mem {l : List RowC} {r : RowC} (h : r ∈ l) : (r.a, rowO c r.dx r.cl r.row.goes) ∈ ownR c l ∧ (r.cl, HO.lst r.vals) ∈ ownR c l := by
  induction l with
  | nil => cases h
  | cons x l ih =>
    show _ ∈ _ :: _ :: ownR c l ∧ _ ∈ _ :: _ :: ownR c l
    rcases List.mem_cons.mp h with rfl | h
    · exact ⟨List.mem_cons_self, List.mem_cons_of_mem _ List.mem_cons_self⟩
    · exact ⟨List.mem_cons_of_mem _ (List.mem_cons_of_mem _ (ih h).1), List.mem_cons_of_mem _ (List.mem_cons_of_mem _ (ih h).2)⟩
/-- fresh blank rows -/
theorem x_fresh {σ : L2.St} {F H : Hp} {x y : Addr × HO} {L : List (Addr × HO)} {Q : VK} {J : It} {n w j : Nat} {item : Nat → V} {s dx : Addr} {fs : List (Str × V)} (R : FScreen c) (ok : ItOk J F n item) (W : Hold F (x :: y :: L) H) (hx : x = (s, .ins c.cScreen dx fs))
    (hw : fs.lookup ("wide" : Str) = some (V.int ((w : Nat) : Int))) (hw2 : w ≤ 60) (hn : n ≤ 1000) (hj : 0 < j) (h0 : σ[0]? = some (some (.ref s)))
    (dn : ∀ (D : Addr) (fr : List RowC) (F' H' : Hp), Same F F' → fr.length = n → (∀ r ∈ fr, r.row = blankRow w ∧ cellsAt c F' r) → F' D = some (.lst (rowRefs fr)) → Hold F' (x :: y :: (ownR c fr ++ L)) H' → Q (.ref D) H') :
    aLc J (gName j) tYes (tF (sp_blank_row c) E0 (tCons (tFld c.K (tVar 0) "wide") tNil)) [j] σ H Q := by
  have cl := R.cl
  have n1 := R.n_wide
  have h0' : (σ.set j none)[0]? = some (some (.ref s)) := by rw [List.getElem?_set_ne (by omega)]; exact h0
  refine x_lcG (F := F) ok W (by omega) (fun i ys F' L' => ∃ fr : List RowC, fr.length = i ∧ ys = rowRefs fr ∧ (∀ r ∈ fr, r.row = blankRow w ∧ cellsAt c F' r) ∧ List.Perm L' (ownR c fr ++ (x :: y :: L))) ⟨[], rfl, rfl, fun _ h => (nomatch h), .refl _⟩
    (fun d i ys F' L' H' QQ hi s1 P W' kq => ?_) gm_name (fun D ys F' H' L' s1 hl P W' => ?_)
  · obtain ⟨fr, hfl, rfl, hfr, hp⟩ := P
    refine ⟨wipe1, ?_⟩
    refine x_f (x_cons (x_fld (x_var (v := .ref s) ?_ ?_)))
    · show ((σ.set j none).set j _)[0]? = _
      rw [List.getElem?_set_ne (by omega)]; exact h0'
    refine x_get (C := c.cScreen) (dx := dx) (fs := fs) ?_ cl n1 hw ?_
    · refine W'.own (s, _) (List.mem_append_left _ (hp.mem_iff.mpr (List.mem_append_right _ ?_)))
      rw [← hx]; exact List.mem_cons_self
    refine x_nil ⟨w, F', L' ++ [d], rfl, hw2, W', fun r F4 H4 s4 hr hc W4 => ?_⟩
    refine kq (.ref r.a) F4 ((r.a, rowO c r.dx r.cl r.row.goes) :: (r.cl, .lst r.vals) :: L') H4 s4 W4 ⟨fr ++ [r], by rw [List.length_append, hfl]; rfl, by unfold rowRefs; rw [List.map_append]; rfl, fun z hz => ?_, ?_⟩
    · rcases List.mem_append.mp hz with h | h
      · exact ⟨(hfr z h).1, (Gr.of s4).dpAll (hfr z h).2⟩
      · rw [List.mem_singleton.mp h]; exact ⟨hr, hc⟩
    · refine ((hp.cons _).cons _).trans ?_
      rw [ownR_app, List.append_assoc]
      exact List.perm_append_comm_assoc [(r.a, rowO c r.dx r.cl r.row.goes), (r.cl, HO.lst r.vals)] (ownR c fr) _
  · obtain ⟨fr, hfl, rfl, hfr, hp⟩ := P
    have W2 : Hold F' ((D, .lst (rowRefs fr)) :: x :: y :: (ownR c fr ++ L)) H' := W'.perm ((hp.trans (List.perm_append_comm_assoc (ownR c fr) [x, y] L)).cons _)
    refine dn D fr _ H' (s1.trans W2.freezeS) hfl (fun r hr => ⟨(hfr r hr).1, (Gr.of W2.freezeS).dpAll (hfr r hr).2⟩) upd_same W2.freeze
theorem rolled_wf {S : Scr} (w : S.Wf) {top n : Nat} (ht : top ≤ S.bottom) (hn : n ≤ S.bottom + 1 - top) : (S.rolled top n).Wf := by
  have h1 := w.rl
  have h2 := w.bh
  have h3 := w.pl
  refine ⟨w.w1, w.w2, w.h1, w.h2, w.m, ?_, fun p hp => ?_, ?_, fun p hp => ?_, w.row, w.column, w.tb, w.bh, w.rd⟩
  · show (S.rows.take top ++ (S.rows.drop (top + n)).take (S.bottom + 1 - (top + n)) ++ List.replicate n (blankRow S.wide) ++ S.rows.drop (S.bottom + 1)).length = S.high
    simp only [List.length_append, List.length_take, List.length_drop, List.length_replicate]
    omega
  · have hp' : p ∈ S.rows.take top ++ (S.rows.drop (top + n)).take (S.bottom + 1 - (top + n)) ++ List.replicate n (blankRow S.wide) ++ S.rows.drop (S.bottom + 1) := hp
    show p.cells.length = S.wide
    simp only [List.mem_append] at hp'
    rcases hp' with ((h | h) | h) | h
    · exact w.rw p (List.mem_of_mem_take h)
    · exact w.rw p (List.mem_of_mem_drop (List.mem_of_mem_take h))
    · rw [List.eq_of_mem_replicate h]; exact List.length_replicate
    · exact w.rw p (List.mem_of_mem_drop h)
  · show (if top = 0 then (S.past ++ S.rows.take n).drop (S.past.length + n - S.most) else S.past).length ≤ S.most
    split
    · simp only [List.length_append, List.length_take, List.length_drop]; omega
    · exact h3
  · have hp' : p ∈ (if top = 0 then (S.past ++ S.rows.take n).drop (S.past.length + n - S.most) else S.past) := hp
    show p.cells.length = S.wide
    split at hp'
    · rcases List.mem_append.mp (List.mem_of_mem_drop hp') with h | h
      · exact w.pw p h
      · exact w.rw p (List.mem_of_mem_take h)
    · exact w.pw p hp'
section
variable {K : PySem.W.Frag} {F H : Hp} {L : List (Addr × HO)} {Q : VK} {p q : Addr} {l m : List RowC} {i j : Nat}
theorem n_rowsTo (W : Hold F L H) (hp : F p = some (.lst (rowRefs l))) (k : ∀ (r : Addr) (F' H' : Hp), Same F F' → F' r = some (.lst (rowRefs (l.take i))) → Hold F' L H' → Q (.ref r) H') : uSl K (.ref p) none (some (i : Int)) H Q :=
  n_slF W (sq_of (W.old _ _ hp)) fun r F' H' s h W' => k r F' H' s (by rw [cutV_L, cutL_to] at h; rw [h]; unfold rowRefs; rw [List.map_take]) W'
theorem n_rowsFrom (W : Hold F L H) (hp : F p = some (.lst (rowRefs l))) (k : ∀ (r : Addr) (F' H' : Hp), Same F F' → F' r = some (.lst (rowRefs (l.drop i))) → Hold F' L H' → Q (.ref r) H') : uSl K (.ref p) (some (i : Int)) none H Q :=
  n_slF W (sq_of (W.old _ _ hp)) fun r F' H' s h W' => k r F' H' s (by rw [cutV_L, cutL_from] at h; rw [h]; unfold rowRefs; rw [List.map_drop]) W'
theorem n_rowsMid (W : Hold F L H) (hp : F p = some (.lst (rowRefs l))) (k : ∀ (r : Addr) (F' H' : Hp), Same F F' → F' r = some (.lst (rowRefs ((l.drop i).take (j - i)))) → Hold F' L H' → Q (.ref r) H') : uSl K (.ref p) (some (i : Int)) (some (j : Int)) H Q :=
  n_slF W (sq_of (W.old _ _ hp)) fun r F' H' s h W' => k r F' H' s (by rw [cutV_L, cutL_mid] at h; rw [h]; unfold rowRefs; rw [List.map_take, List.map_drop]) W'
theorem n_rowsAdd (W : Hold F L H) (hp : F p = some (.lst (rowRefs l))) (hq : F q = some (.lst (rowRefs m))) (hl : l.length + m.length ≤ 1000) (k : ∀ (r : Addr) (F' H' : Hp), Same F F' → F' r = some (.lst (rowRefs (l ++ m))) → Hold F' L H' → Q (.ref r) H') : uAdd K (.ref p) (.ref q) H Q :=
  n_addF W (W.old _ _ hp) (W.old _ _ hq) (by unfold rowRefs; rw [List.length_map, List.length_map]; exact szl (by omega)) fun r F' H' s h W' => k r F' H' s (by rw [h]; unfold rowRefs; rw [List.map_append]) W'
end
theorem rd_Screen_roll (R : FScreen c) : RD N_Screen_roll (t_Screen_roll c) (sp_Screen_roll c) := by
  have cl := R.cl
  have n1 := R.n_bottom
  have n2 := R.n_rows
  have n3 := R.n_past
  have n4 := R.n_most
  have n5 := R.n_wide
  rintro vs H Q E ⟨s, C, S, top, many, F, L, rfl, ht, A, W, kk⟩
  have wf := A.wf
  have bh := wf.bh
  have hh := wf.h2
  have hm := wf.m
  have hlen := A.len
  have hpl := A.plen
  unfold t_Screen_roll
  walk_at "r"
  have e : min ((many : Nat) : Int) ((S.bottom : Int) - top + 1) = ((min many (S.bottom + 1 - top) : Nat) : Int) := by omega
  rw [e]
  have ek : S.roll top many = (S.rolled top (min many (S.bottom + 1 - top))).cutOff top := rfl
  rw [ek] at kk
  have hn : min many (S.bottom + 1 - top) ≤ S.bottom + 1 - top := Nat.min_le_right _ _
  generalize min many (S.bottom + 1 - top) = n at kk hn
  walk_at "r"
  refine x_cut (fun σ' H' => ∃ F1 pp1 past1, σ' = [some (.ref s), some (.int (top : Nat)), some (.int (n : Nat)), none, none] ∧ Same F F1 ∧ F1 pp1 = some (.lst (rowRefs past1)) ∧ past1 = (if top = 0 then (C.past ++ C.rows.take n).drop (C.past.length + n - S.most) else C.past) ∧
    Hold F1 ((s, scrO c { C with pp := pp1 } S) :: (C.r, rdO c C.rdx S.rd) :: (ownR c C.rows ++ L)) H') ?_ ?_
  · walk_at "r"
    refine wD (fun h0 => ?_) (fun h0 => ?_)
    · walk_at "r"
      refine n_rowsTo W A.pr fun q1 F1 H1 s1 h1 W1 => ?_
      refine n_rowsAdd W1 (s1 _ _ A.pp) h1 (by rw [List.length_take]; omega) fun q2 F2 H2 s2 h2 W2 => ?_
      walk_at "r"
      refine l_lenL (sq_of (W2.old _ _ (s2 _ _ (s1 _ _ A.pp)))) ?_
      walk_at "r"
      have e2 : max 0 (((rowRefs C.past).length + n : Nat) - (S.most : Int)) = ((C.past.length + n - S.most : Nat) : Int) := by
        unfold rowRefs
        rw [List.length_map]; omega
      rw [e2]
      refine n_rowsFrom W2 h2 fun q3 F3 H3 s3 h3 W3 => ?_
      walk_at "r"
      refine x_put0 W3 cl n3 fsScreen_len fsScreen_p4 fun H4 W4 => ?_
      walk_at "r"
      exact ⟨F3, q3, _, rfl, (s1.trans s2).trans s3, h3, (if_pos h0).symm, W4⟩
    · walk_at "r"
      exact ⟨F, C.pp, C.past, rfl, Same.refl F, A.pp, (if_neg h0).symm, W⟩
  · rintro σ' H' ⟨F1, pp1, past1, rfl, s1, hpp, hpast, W1⟩
    walk_at "r"
    refine x_irng1' (by omega) (by omega) ?_
    rw [Int.toNat_natCast]
    refine x_fresh R ItOk.rng W1 rfl fsScreen_g1 wf.w2 (by omega) (by decide) rfl fun D fr F2 H2 s2 hfl hfr hD W2 => ?_
    walk_at "r"
    have hpr : F2 C.pr = some (.lst (rowRefs C.rows)) := s2 _ _ (s1 _ _ A.pr)
    refine n_rowsTo W2 hpr fun a1 F3 H3 s3 h3 W3 => ?_
    walk_at "r"
    refine n_rowsMid W3 (s3 _ _ hpr) fun a2 F4 H4 s4 h4 W4 => ?_
    refine n_rowsAdd W4 (s4 _ _ h3) h4 (by simp only [List.length_take, List.length_drop]; omega) fun a3 F5 H5 s5 h5 W5 => ?_
    walk_at "r"
    have s25 : Same F2 F5 := (s3.trans s4).trans s5
    refine n_rowsAdd W5 h5 (s25 _ _ hD) (by simp only [List.length_append, List.length_take, List.length_drop]; omega) fun a4 F6 H6 s6 h6 W6 => ?_
    walk_at "r"
    have s26 : Same F2 F6 := s25.trans s6
    refine n_rowsFrom W6 (s26 _ _ hpr) fun a5 F7 H7 s7 h7 W7 => ?_
    refine n_rowsAdd W7 (s7 _ _ h6) h7 (by simp only [List.length_append, List.length_take, List.length_drop]; omega) fun a6 F8 H8 s8 h8 W8 => ?_
    walk_at "r"
    have s28 : Same F2 F8 := (s26.trans s7).trans s8
    refine x_put0 W8 cl n2 fsScreen_len fsScreen_p5 fun H9 W9 => ?_
    walk_at "r"
    have pm : List.Perm (fr ++ C.rows) ((C.rows.drop top).take n ++ (C.rows.take top ++ (C.rows.drop (top + n)).take (S.bottom + OfNat.ofNat 1 - (top + n)) ++ fr ++ C.rows.drop (S.bottom + OfNat.ofNat 1))) := by
      have e1 : C.rows = C.rows.take top ++ ((C.rows.drop top).take n ++ ((C.rows.drop (top + n)).take (S.bottom + OfNat.ofNat 1 - (top + n)) ++ C.rows.drop (S.bottom + OfNat.ofNat 1))) := by
        have a1 : C.rows.drop (S.bottom + OfNat.ofNat 1) = (C.rows.drop (top + n)).drop (S.bottom + OfNat.ofNat 1 - (top + n)) := by
          rw [List.drop_drop]; congr 1; show S.bottom + 1 = top + n + (S.bottom + 1 - (top + n)); omega
        have a2 : C.rows.drop (top + n) = (C.rows.drop top).drop n := by rw [List.drop_drop]
        rw [a1, List.take_append_drop, a2, List.take_append_drop, List.take_append_drop]
      generalize (C.rows.drop top).take n = lv at e1 ⊢
      generalize C.rows.take top = tk at e1 ⊢
      generalize (C.rows.drop (top + n)).take (S.bottom + OfNat.ofNat 1 - (top + n)) = md at e1 ⊢
      generalize C.rows.drop (S.bottom + OfNat.ofNat 1) = tl at e1 ⊢
      rw [e1]
      haveI : DecidableEq RowC := fun _ _ => Classical.propDecidable _
      exact List.perm_iff_count.mpr fun a => by simp only [List.count_append]; omega
    have W10 : Hold F8 (ownR c ((C.rows.drop top).take n) ++ ((s, scrO c { C with pp := pp1, pr := a6 } S) :: (C.r, rdO c C.rdx S.rd) :: (ownR c (C.rows.take top ++ (C.rows.drop (top + n)).take (S.bottom + OfNat.ofNat 1 - (top + n)) ++ fr ++ C.rows.drop (S.bottom + OfNat.ofNat 1)) ++ L))) H9 := by
      refine W9.perm ?_
      have p1 := (ownR_perm (c := c) pm).append_right L
      rw [ownR_app, ownR_app, List.append_assoc, List.append_assoc] at p1
      exact ((p1.cons _).cons _).trans (List.perm_append_comm_assoc [_, _] (ownR c ((C.rows.drop top).take n)) _)
    obtain ⟨F9, s9, W11, hpin⟩ := Hold.freezeL _ W10
    have s19 : Same F1 F9 := (s2.trans s28).trans s9
    have s09 : Same F F9 := s1.trans s19
    have A' : ScrAt c F9 { C with pp := pp1, pr := a6, past := past1, rows := C.rows.take top ++ (C.rows.drop (top + n)).take (S.bottom + OfNat.ofNat 1 - (top + n)) ++ fr ++ C.rows.drop (S.bottom + OfNat.ofNat 1) } (S.rolled top n) := by
      have inR : ∀ r, r ∈ C.rows → cellsAt c F9 r := fun r hr => (Gr.of s09).dpAll (A.vals r hr)
      refine ⟨rolled_wf wf ht hn, ?_, ?_, fun r hr => ?_, s9 _ _ h8, s19 _ _ hpp, fun r hr => ?_, (Gr.of s09).dp A.pen, ?_⟩
      · show (C.rows.take top ++ (C.rows.drop (top + n)).take (S.bottom + 1 - (top + n)) ++ fr ++ C.rows.drop (S.bottom + 1)).map (·.row) = S.rows.take top ++ (S.rows.drop (top + n)).take (S.bottom + 1 - (top + n)) ++ List.replicate n (blankRow S.wide) ++ S.rows.drop (S.bottom + 1)
        have ef : fr.map (·.row) = List.replicate n (blankRow S.wide) := List.eq_replicate_iff.mpr ⟨by rw [List.length_map, hfl], fun p hp => by obtain ⟨r, hr, rfl⟩ := List.mem_map.mp hp; exact (hfr r hr).1⟩
        rw [List.map_append, List.map_append, List.map_append, ef, List.map_take, List.map_take, List.map_drop, List.map_drop, A.rows]
      · show past1.map (·.row) = (if top = 0 then (S.past ++ S.rows.take n).drop (S.past.length + n - S.most) else S.past)
        rw [hpast]
        have el : C.past.length = S.past.length := by rw [← A.past, List.length_map]
        split
        · rw [List.map_drop, List.map_append, List.map_take, A.rows, A.past, el]
        · exact A.past
      · simp only [List.mem_append] at hr
        rcases hr with ((h | h) | h) | h
        · exact inR r (List.mem_of_mem_take h)
        · exact inR r (List.mem_of_mem_drop (List.mem_of_mem_take h))
        · exact (Gr.of (s28.trans s9)).dpAll (hfr r h).2
        · exact inR r (List.mem_of_mem_drop h)
      · have old : r ∈ C.past → F9 r.a = some (rowO c r.dx r.cl r.row.goes) ∧ F9 r.cl = some (.lst r.vals) ∧ cellsAt c F9 r := fun h => by
          obtain ⟨x1, x2, x3⟩ := A.pin r h
          exact ⟨s09 _ _ x1, s09 _ _ x2, (Gr.of s09).dpAll x3⟩
        have hr' : r ∈ past1 := hr
        rw [hpast] at hr'
        split at hr'
        · rename_i h0
          rcases List.mem_append.mp (List.mem_of_mem_drop hr') with h | h
          · exact old h
          · have hm2 : r ∈ (C.rows.drop top).take n := by rw [h0, List.drop_zero]; exact h
            obtain ⟨m1, m2⟩ := ownR_mem (c := c) hm2
            exact ⟨hpin _ m1, hpin _ m2, inR r (List.mem_of_mem_take h)⟩
        · exact old hr'
      · obtain ⟨q, pv, x1, x2, x3⟩ := A.pb
        exact ⟨q, pv, x1, (Gr.of s09).sqT x2, (Gr.of s09).dp x3⟩
    refine ⟨s, _, S.rolled top n, top, F9, L, rfl, by show top ≤ S.high; omega, A', W11, fun C2 F10 H10 s10 A2 W12 => ?_⟩
    walk_at "r"
    exact kk C2 F10 H10 (s09.trans s10) A2 W12
theorem rolledDown_wf {S : Scr} (w : S.Wf) {top n : Nat} (ht : top ≤ S.bottom) (hn : n ≤ S.bottom + 1 - top) : (S.rolledDown top n).Wf := by
  have h1 := w.rl
  have h2 := w.bh
  refine ⟨w.w1, w.w2, w.h1, w.h2, w.m, ?_, fun p hp => ?_, w.pl, w.pw, w.row, w.column, w.tb, w.bh, w.rd⟩
  · show (S.rows.take top ++ List.replicate n (blankRow S.wide) ++ (S.rows.drop top).take (S.bottom + 1 - n - top) ++ S.rows.drop (S.bottom + 1)).length = S.high
    simp only [List.length_append, List.length_take, List.length_drop, List.length_replicate]
    omega
  · have hp' : p ∈ S.rows.take top ++ List.replicate n (blankRow S.wide) ++ (S.rows.drop top).take (S.bottom + 1 - n - top) ++ S.rows.drop (S.bottom + 1) := hp
    show p.cells.length = S.wide
    simp only [List.mem_append] at hp'
    rcases hp' with ((h | h) | h) | h
    · exact w.rw p (List.mem_of_mem_take h)
    · rw [List.eq_of_mem_replicate h]; exact List.length_replicate
    · exact w.rw p (List.mem_of_mem_drop (List.mem_of_mem_take h))
    · exact w.rw p (List.mem_of_mem_drop h)
theorem rd_Screen_roll_down (R : FScreen c) : RD N_Screen_roll_down (t_Screen_roll_down c) (sp_Screen_roll_down c) := by
  have cl := R.cl
  have n1 := R.n_bottom
  have n2 := R.n_rows
  have n5 := R.n_wide
  rintro vs H Q E ⟨s, C, S, top, many, F, L, rfl, ht, A, W, kk⟩
  have wf := A.wf
  have bh := wf.bh
  have hh := wf.h2
  have hlen := A.len
  unfold t_Screen_roll_down
  walk_at "r"
  have e : min ((many : Nat) : Int) ((S.bottom : Int) - top + 1) = ((min many (S.bottom + 1 - top) : Nat) : Int) := by omega
  rw [e]
  have ek : S.rollDown top many = (S.rolledDown top (min many (S.bottom + 1 - top))).cutOff top := rfl
  rw [ek] at kk
  have hn : min many (S.bottom + 1 - top) ≤ S.bottom + 1 - top := Nat.min_le_right _ _
  generalize min many (S.bottom + 1 - top) = n at kk hn
  walk_at "r"
  refine x_irng1' (by omega) (by omega) ?_
  rw [Int.toNat_natCast]
  refine x_fresh R ItOk.rng W rfl fsScreen_g1 wf.w2 (by omega) (by decide) rfl fun D fr F2 H2 s2 hfl hfr hD W2 => ?_
  walk_at "r"
  have hpr : F2 C.pr = some (.lst (rowRefs C.rows)) := s2 _ _ A.pr
  have e3 : ((S.bottom + OfNat.ofNat 1 : Nat) : Int) - ((n : Nat) : Int) = ((S.bottom + 1 - n : Nat) : Int) := by
    show ((S.bottom + 1 : Nat) : Int) - ((n : Nat) : Int) = _
    omega
  rw [e3]
  refine n_rowsMid W2 hpr fun a2 F4 H4 s4 h4 W4 => ?_
  walk_at "r"
  refine n_rowsTo W4 (s4 _ _ hpr) fun a1 F3 H3 s3 h3 W3 => ?_
  walk_at "r"
  refine n_rowsAdd W3 h3 (s3 _ _ (s4 _ _ hD)) (by simp only [List.length_append, List.length_take, List.length_drop]; omega) fun a3 F5 H5 s5 h5 W5 => ?_
  walk_at "r"
  refine n_rowsAdd W5 h5 (s5 _ _ (s3 _ _ h4)) (by simp only [List.length_append, List.length_take, List.length_drop]; omega) fun a4 F6 H6 s6 h6 W6 => ?_
  walk_at "r"
  have s26 : Same F2 F6 := ((s4.trans s3).trans s5).trans s6
  refine n_rowsFrom W6 (s26 _ _ hpr) fun a5 F7 H7 s7 h7 W7 => ?_
  refine n_rowsAdd W7 (s7 _ _ h6) h7 (by simp only [List.length_append, List.length_take, List.length_drop]; omega) fun a6 F8 H8 s8 h8 W8 => ?_
  walk_at "r"
  have s28 : Same F2 F8 := (s26.trans s7).trans s8
  refine x_put0 W8 cl n2 fsScreen_len fsScreen_p5 fun H9 W9 => ?_
  walk_at "r"
  have pm : List.Perm (fr ++ C.rows) ((C.rows.drop (S.bottom + 1 - n)).take n ++ (C.rows.take top ++ fr ++ (C.rows.drop top).take (S.bottom + 1 - n - top) ++ C.rows.drop (S.bottom + OfNat.ofNat 1))) := by
    have e1 : C.rows = C.rows.take top ++ ((C.rows.drop top).take (S.bottom + 1 - n - top) ++ ((C.rows.drop (S.bottom + 1 - n)).take n ++ C.rows.drop (S.bottom + OfNat.ofNat 1))) := by
      have a1 : C.rows.drop (S.bottom + OfNat.ofNat 1) = (C.rows.drop (S.bottom + 1 - n)).drop n := by
        rw [List.drop_drop]; congr 1; show S.bottom + 1 = S.bottom + 1 - n + n; omega
      have a2 : C.rows.drop (S.bottom + 1 - n) = (C.rows.drop top).drop (S.bottom + 1 - n - top) := by
        rw [List.drop_drop]; congr 1; omega
      rw [a1, List.take_append_drop, a2, List.take_append_drop, List.take_append_drop]
    generalize (C.rows.drop (S.bottom + 1 - n)).take n = lv at e1 ⊢
    generalize C.rows.take top = tk at e1 ⊢
    generalize (C.rows.drop top).take (S.bottom + 1 - n - top) = md at e1 ⊢
    generalize C.rows.drop (S.bottom + OfNat.ofNat 1) = tl at e1 ⊢
    rw [e1]
    haveI : DecidableEq RowC := fun _ _ => Classical.propDecidable _
    exact List.perm_iff_count.mpr fun a => by simp only [List.count_append]; omega
  have W10 : Hold F8 ((s, scrO c { C with pr := a6 } S) :: (C.r, rdO c C.rdx S.rd) :: (ownR c (C.rows.take top ++ fr ++ (C.rows.drop top).take (S.bottom + 1 - n - top) ++ C.rows.drop (S.bottom + OfNat.ofNat 1)) ++ L)) H9 := by
    have W10' : Hold F8 (ownR c ((C.rows.drop (S.bottom + 1 - n)).take n) ++ ((s, scrO c { C with pr := a6 } S) :: (C.r, rdO c C.rdx S.rd) :: (ownR c (C.rows.take top ++ fr ++ (C.rows.drop top).take (S.bottom + 1 - n - top) ++ C.rows.drop (S.bottom + OfNat.ofNat 1)) ++ L))) H9 := by
      refine W9.perm ?_
      have p1 := (ownR_perm (c := c) pm).append_right L
      rw [ownR_app, ownR_app, List.append_assoc, List.append_assoc] at p1
      exact ((p1.cons _).cons _).trans (List.perm_append_comm_assoc [_, _] (ownR c ((C.rows.drop (S.bottom + 1 - n)).take n)) _)
    exact W10'.sub (List.sublist_append_right _ _)
  have s08 : Same F F8 := s2.trans s28
  have A' : ScrAt c F8 { C with pr := a6, rows := C.rows.take top ++ fr ++ (C.rows.drop top).take (S.bottom + 1 - n - top) ++ C.rows.drop (S.bottom + OfNat.ofNat 1) } (S.rolledDown top n) := by
    have inR : ∀ r, r ∈ C.rows → cellsAt c F8 r := fun r hr => (Gr.of s08).dpAll (A.vals r hr)
    have A8 := A.gr (Gr.of s08)
    refine ⟨rolledDown_wf wf ht hn, ?_, A.past, fun r hr => ?_, h8, A8.pp, A8.pin, A8.pen, A8.pb⟩
    · show (C.rows.take top ++ fr ++ (C.rows.drop top).take (S.bottom + 1 - n - top) ++ C.rows.drop (S.bottom + 1)).map (·.row) = S.rows.take top ++ List.replicate n (blankRow S.wide) ++ (S.rows.drop top).take (S.bottom + 1 - n - top) ++ S.rows.drop (S.bottom + 1)
      have ef : fr.map (·.row) = List.replicate n (blankRow S.wide) := List.eq_replicate_iff.mpr ⟨by rw [List.length_map, hfl], fun p hp => by obtain ⟨r, hr, rfl⟩ := List.mem_map.mp hp; exact (hfr r hr).1⟩
      rw [List.map_append, List.map_append, List.map_append, ef, List.map_take, List.map_take, List.map_drop, List.map_drop, A.rows]
    · simp only [List.mem_append] at hr
      rcases hr with ((h | h) | h) | h
      · exact inR r (List.mem_of_mem_take h)
      · exact (Gr.of s28).dpAll (hfr r h).2
      · exact inR r (List.mem_of_mem_drop (List.mem_of_mem_take h))
      · exact inR r (List.mem_of_mem_drop h)
  refine ⟨s, _, S.rolledDown top n, top, F8, L, rfl, by show top ≤ S.high; omega, A', W10, fun C2 F10 H10 s10 A2 W12 => ?_⟩
  walk_at "r"
  exact kk C2 F10 H10 (s08.trans s10) A2 W12
theorem rd_Screen_down (R : FScreen c) : RD N_Screen_down (t_Screen_down c) (sp_Screen_down c) := by
  have cl := R.cl
  have n1 := R.n_bottom
  have n2 := R.n_row
  have n3 := R.n_top
  have n4 := R.n_high
  rintro vs H Q E ⟨s, C, S, F, L, rfl, A, W, kk⟩
  have wf := A.wf
  unfold t_Screen_down
  walk_at "r"
  refine wD (fun h => ?_) (fun h => ?_)
  · have e : S.down = S.roll S.top 1 := if_pos (by omega)
    rw [e] at kk
    walk_at "r"
    refine ⟨s, C, S, S.top, 1, F, L, rfl, wf.tb, A, W, fun C2 F2 H2 s2 A2 W2 => ?_⟩
    walk_at "r"
    exact kk C2 F2 H2 s2 A2 W2
  · have e : S.down = if S.row < S.high - 1 then { S with row := S.row + 1 } else S := if_neg (by omega)
    rw [e] at kk
    walk_at "r"
    refine wD (fun h2 => ?_) (fun h2 => ?_)
    · rw [if_pos (by have := wf.h1; omega)] at kk
      walk_at "r"
      refine x_put0 W cl n2 fsScreen_len fsScreen_p6 fun H1 W1 => ?_
      walk_at "r"
      refine kk C F H1 (Same.refl F) ⟨?_, A.rows, A.past, A.vals, A.pr, A.pp, A.pin, A.pen, A.pb⟩ W1
      exact ⟨wf.w1, wf.w2, wf.h1, wf.h2, wf.m, wf.rl, wf.rw, wf.pl, wf.pw, by show S.row + 1 < S.high; omega, wf.column, wf.tb, wf.bh, wf.rd⟩
    · rw [if_neg (by have := wf.h1; omega)] at kk
      walk_at "r"
      exact kk C F H (Same.refl F) A W
theorem rd_Screen_up (R : FScreen c) : RD N_Screen_up (t_Screen_up c) (sp_Screen_up c) := by
  have cl := R.cl
  have n2 := R.n_row
  have n3 := R.n_top
  rintro vs H Q E ⟨s, C, S, F, L, rfl, A, W, kk⟩
  have wf := A.wf
  unfold t_Screen_up
  walk_at "r"
  refine wD (fun h => ?_) (fun h => ?_)
  · have e : S.up = S.rollDown S.top 1 := if_pos (by omega)
    rw [e] at kk
    walk_at "r"
    refine ⟨s, C, S, S.top, 1, F, L, rfl, wf.tb, A, W, fun C2 F2 H2 s2 A2 W2 => ?_⟩
    walk_at "r"
    exact kk C2 F2 H2 s2 A2 W2
  · have e : S.up = if 0 < S.row then { S with row := S.row - 1 } else S := if_neg (by omega)
    rw [e] at kk
    walk_at "r"
    refine wD (fun h2 => ?_) (fun h2 => ?_)
    · rw [if_pos (by omega)] at kk
      walk_at "r"
      refine x_put0 W cl n2 fsScreen_len fsScreen_p6 fun H1 W1 => ?_
      walk_at "r"
      have e4 : ((S.row : Nat) : Int) - 1 = ((S.row - 1 : Nat) : Int) := by omega
      rw [e4] at W1
      refine kk C F H1 (Same.refl F) ⟨?_, A.rows, A.past, A.vals, A.pr, A.pp, A.pin, A.pen, A.pb⟩ W1
      exact ⟨wf.w1, wf.w2, wf.h1, wf.h2, wf.m, wf.rl, wf.rw, wf.pl, wf.pw, by show S.row - 1 < S.high; have := wf.row; omega, wf.column, wf.tb, wf.bh, wf.rd⟩
    · rw [if_neg (by omega)] at kk
      walk_at "r"
      exact kk C F H (Same.refl F) A W
end
end Ss
/-! ## Screens: put, erase, small, .. -/
namespace Ss
open PySem PySem.Spec PyProof.Rows L2
open Ss in
local macro_rules | `(tactic| walk_at "fg") => `(tactic| first | with_reducible exact fsScreen_g0 | with_reducible exact fsScreen_g1 | with_reducible exact fsScreen_g2 | with_reducible exact fsScreen_g3 | with_reducible exact fsScreen_g4 | with_reducible exact fsScreen_g5 | with_reducible exact fsScreen_g6 | with_reducible exact fsScreen_g7 | with_reducible exact fsScreen_g8 | with_reducible exact fsScreen_g9 | with_reducible exact fsScreen_g10 | with_reducible exact fsScreen_g11 | with_reducible exact fsScreen_g12 | with_reducible exact fsScreen_g13 | with_reducible exact fsRow_g0 | with_reducible exact fsRow_g1 | with_reducible exact fsReader_g0 | with_reducible exact fsReader_g1)
open Ss in
local macro_rules | `(tactic| walk_at "r") => `(tactic| repeat (first
  | with_reducible refine x_seq ?_ | with_reducible refine x_asg ?_ | with_reducible refine x_var rfl ?_ | with_reducible refine x_c ?_ | with_reducible refine x_op ?_ | with_reducible refine x_name ?_ | with_reducible refine x_gcons ?_ | with_reducible refine x_gnil ?_
  | with_reducible refine x_cons ?_ | with_reducible refine x_nil ?_ | with_reducible refine x_cb ?_ | with_reducible refine x_ifs ?_ | with_reducible refine x_test ?_ | with_reducible refine x_bl ?_
  | with_reducible refine g_addNN ?_ | with_reducible refine g_addNL ?_ | with_reducible refine g_addLN ?_ | with_reducible refine l_addI ?_ | with_reducible refine l_subI ?_ | with_reducible refine g_ltNL ?_ | with_reducible refine l_ltI ?_ | with_reducible refine l_leI ?_ | with_reducible refine l_gtI ?_ | with_reducible refine l_geI ?_ | with_reducible refine l_eqX ?_ | with_reducible refine l_neX ?_ | with_reducible refine g_eqNL ?_ | with_reducible refine l_eqII ?_ | with_reducible refine l_neII ?_ | with_reducible refine l_eq rfl ?_ | with_reducible refine l_ne rfl ?_
  | with_reducible refine x_fld ?_ | with_reducible refine x_ret ?_ | with_reducible refine x_drop ?_ | with_reducible refine x_next ?_ | with_reducible refine x_tup ?_ | with_reducible refine x_lst ?_ | with_reducible refine x_f ?_ | with_reducible refine x_o ?_ | with_reducible refine x_n ?_
  | with_reducible refine x_bm ?_ | with_reducible refine x_bm0 ?_ | with_reducible refine x_m1 ?_ | with_reducible refine x_m0 ?_ | with_reducible refine x_isstr ?_ | with_reducible refine x_tystr ?_ | with_reducible refine x_sl ?_ | with_reducible refine x_part ?_ | with_reducible refine x_part' ?_ | with_reducible refine x_nopart ?_
  | with_reducible refine x_sfld ?_ | with_reducible refine x_if ?_ | with_reducible refine x_isty ?_ | with_reducible refine x_chain ?_ | with_reducible refine x_andV ?_ | with_reducible refine x_orV ?_ | with_reducible refine x_notV ?_ | with_reducible refine x_B ?_ | with_reducible refine x_and ?_ | with_reducible refine x_or ?_ | with_reducible refine x_not ?_ | with_reducible refine x_tru ?_ | with_reducible refine x_yes ?_
  | with_reducible refine x_un ?_ | with_reducible refine x_neg ?_ | with_reducible refine x_par ?_ | with_reducible refine x_par' ?_ | with_reducible refine x_retN ?_ | with_reducible refine x_brk ?_ | with_reducible refine x_cont ?_ | with_reducible refine x_rz ?_
  | with_reducible refine l_leS ?_ | with_reducible refine l_ltS ?_ | with_reducible refine l_inX ?_ | with_reducible refine l_niX ?_ | with_reducible refine l_inS ?_ | with_reducible refine l_niS ?_ | with_reducible refine l_count ?_ | with_reducible refine l_ord ?_ | with_reducible refine l_max ?_ | with_reducible refine l_min ?_ | with_reducible refine l_intI ?_ | with_reducible refine l_intB ?_ | with_reducible refine l_is ?_ | with_reducible refine l_isn ?_
  | with_reducible refine g_modNL (by decide) ?_ | with_reducible refine g_divNL (by decide) (by decide) ?_ | with_reducible refine l_modI (by decide) ?_ | with_reducible refine x_for ?_ | with_reducible refine x_lc ?_ | with_reducible refine x_ilist ?_ | with_reducible refine x_itup ?_ | with_reducible refine x_istr ?_ | with_reducible refine x_istr' ?_ | with_reducible refine x_irng1 ?_ | with_reducible refine x_irng2 ?_
  | (with_reducible refine x_get (by first | assumption | exact Hold.get0 (by assumption) | exact Hold.get1 (by assumption)) (by assumption) (by assumption) (by walk_at "fg") ?_)
  | (with_reducible refine x_ao (by first | assumption | exact Hold.get0 (by assumption) | exact Hold.get1 (by assumption)) (by kernel_rfl) ?_)
  | with_reducible refine x_ienum ?_ | with_reducible refine x_izip ?_ | with_reducible refine x_chain3 ?_
  | (with_reducible refine x_par2 ?_)
  | (with_reducible refine x_par3 ?_) | (with_reducible refine x_par3' ?_)))
def t_Screen_put (c : Ctx) (E : XK) : TS :=
  (C8.tCut (tIfS (tB (tFld c.K (tVar 0) "is_full")) (tSeq (sFld c.K (tOp (uIx c.K) (tFld c.K (tVar 0) "rows") (tFld c.K (tVar 0) "row")) (tOrV (tOp (uEq c.K) (tFld c.K (tVar 0) "row") (tFld c.K (tVar 0) "bottom")) (tOp uLt (tFld c.K (tVar 0) "row") (tOp uSub (tFld c.K (tVar 0) "high") (tC (.int 1))))) "goes_on")
  (tSeq (tDrop (tO c.cScreen "down" (sp_Screen_down c) E0 (tVar 0) tNil))
  (tDrop (tO c.cScreen "stand" (sp_Screen_stand c) E0 (tVar 0) (tCons (tFld c.K (tVar 0) "row") (tCons (tC (.int 0)) tNil)))))) tNext) (tSeq (tAsg (tTup (tCons (tVar 1) (tCons (tFld c.K (tVar 0) "pen") tNil))) (gSub (tFld c.K (tOp (uIx c.K) (tFld c.K (tVar 0) "rows") (tFld c.K (tVar 0) "row")) "cells") (tFld c.K (tVar 0) "column") rSetL))
  (tSeq (sFld c.K (tVar 0) (tVar 1) "last")
  (tIfS (tTest (tOp (uEq c.K) (tFld c.K (tVar 0) "column") (tOp uSub (tFld c.K (tVar 0) "wide") (tC (.int 1))))) (sFld c.K (tVar 0) (tC (.bl true)) "is_full") (sFld c.K (tVar 0) (tOp (uAdd c.K) (tFld c.K (tVar 0) "column") (tC (.int 1))) "column")))))
abbrev N_Screen_put : List Str := ["self", "sign"]

def t_Screen_begin (c : Ctx) (E : XK) : TS :=
  (tSeq (sFld c.K (tVar 0) (tLc (iRng1 (tCons (tFld c.K (tVar 0) "high") tNil)) (gName 1) tYes (tF (sp_blank_row c) E0 (tCons (tFld c.K (tVar 0) "wide") tNil)) [1]) "rows")
  (tSeq (sFld c.K (tVar 0) (tC (.int 0)) "row")
  (tSeq (sFld c.K (tVar 0) (tC (.int 0)) "column")
  (tSeq (sFld c.K (tVar 0) (tC (.bl false)) "is_full")
  (tSeq (sFld c.K (tVar 0) (tC (v_PLAIN c)) "pen")
  (tSeq (sFld c.K (tVar 0) (tC (.int 0)) "top")
  (tSeq (sFld c.K (tVar 0) (tOp uSub (tFld c.K (tVar 0) "high") (tC (.int 1))) "bottom")
  (tSeq (sFld c.K (tVar 0) (tTup (tCons (tC (.int 0)) (tCons (tC (.int 0)) (tCons (tC (v_PLAIN c)) tNil)))) "put_by")
  (sFld c.K (tVar 0) (tC .non) "last")))))))))
abbrev N_Screen_begin : List Str := ["self", "at"]

section
variable {c : Ctx}
theorem dpAll_set {K : PySem.W.Frag} {F : Hp} {v : V} {d : PyData} (h : Dp K F v d) : ∀ {ys : List V} {ds : List PyData} (i : Nat), DpAll K F ys ds → DpAll K F (ys.set i v) (ds.set i d)
  | _, _, _, .nil => .nil
  | _, _, 0, .cons _ t => .cons h t
  | _, _, i + 1, .cons a t => .cons a (dpAll_set h i t)
theorem orV_of {σ : L2.St} {H H1 : Hp} {Q : VK} {ta tb : TE} {a b : Bool} (ha : ∀ R : VK, R (.bl a) H1 → ta σ H R) (hb : ∀ R : VK, R (.bl b) H1 → tb σ H1 R) (q : Q (.bl (a || b)) H1) : tOrV ta tb σ H Q := by
  refine x_orV (ha _ ⟨a, rfl, ?_⟩)
  cases a with
  | true => exact wT rfl q
  | false => exact wF rfl (hb _ q)
/-- a row's cells are read -/
theorem x_cells {C : ScrC} {S : Scr} {F H : Hp} {L : List (Addr × HO)} {Q : VK} {i : Nat} {r : RowC} {s : Addr} (R : FRow c) (W : Hold F (scrL c s C S L) H) (h : C.rows[i]? = some r) (q : Q (.ref r.cl) H) : aFld c.K (.ref r.a) "cells" H Q :=
  x_get ((W.row2 h).get 0 rfl) R.cl R.n_cells fsRow_g0 q
theorem cl_at {C : ScrC} {S : Scr} {F H : Hp} {L : List (Addr × HO)} {i : Nat} {r : RowC} {s : Addr} (W : Hold F (scrL c s C S L) H) (h : C.rows[i]? = some r) : H r.cl = some (.lst r.vals) := (W.row2 h).get 1 rfl
theorem setCells_eq {C : ScrC} {S : Scr} {F : Hp} {r : RowC} (A : ScrAt c F C S) (h : C.rows[S.row]? = some r) (cells : List Cell) : S.setCells cells = S.setRow S.row { r.row with cells := cells } := by
  unfold Scr.setCells; rw [A.rowAt h]
/-- rows[row].cells[k] = cell -/
theorem x_cellSet {C : ScrC} {S : Scr} {F H : Hp} {L : List (Addr × HO)} {QH : Hp → Prop} {k : Nat} {r : RowC} {s : Addr} {v : V} {x : Cell} (A : ScrAt c F C S) (W : Hold F (scrL c s C S L) H) (h : C.rows[S.row]? = some r) (hk : k < S.wide) (hv : Dp c.K F v x.data)
    (q : ∀ C' H', ScrAt c F C' (S.setCells (r.row.cells.set k x)) → Hold F (scrL c s C' (S.setCells (r.row.cells.set k x)) L) H' → QH H') : rSetL (.ref r.cl) (.int (k : Nat)) v H QH := by
  have hm := List.mem_of_getElem? h
  have hw : r.row.cells.length = S.wide := A.wf.rw r.row (by rw [← A.rows]; exact List.mem_map_of_mem hm)
  have hvl := dpAll_len (A.vals r hm)
  rw [List.length_map] at hvl
  refine x_setL (cl_at W h) (by omega) ?_
  have W1 := (W.row2 h).put1 (o' := .lst (r.vals.set k v))
  rw [setCells_eq A h] at q
  refine q { C with rows := C.rows.set S.row { r with vals := r.vals.set k v, row := { r.row with cells := r.row.cells.set k x } } } _ (A.setRow (r' := { r with vals := r.vals.set k v, row := { r.row with cells := r.row.cells.set k x } }) h rfl ?_ ?_) ?_
  · show DpAll c.K F (r.vals.set k v) ((r.row.cells.set k x).map Cell.data)
    rw [List.map_set]
    exact dpAll_set hv k (A.vals r hm)
  · show (r.row.cells.set k x).length = S.wide
    rw [List.length_set]; exact hw
  · exact Hold.row2Back (C := C) (r' := { r with vals := r.vals.set k v, row := { r.row with cells := r.row.cells.set k x } }) W1 (List.getElem?_eq_some_iff.mp h).1
/-- rows[row].cells = a new list -/
theorem x_cellsPut {C : ScrC} {S : Scr} {F H : Hp} {L : List (Addr × HO)} {QH : Hp → Prop} {r : RowC} {s q : Addr} {vals : List V} {cells : List Cell} (R : FRow c) (A : ScrAt c F C S) (W : Hold F ((q, .lst vals) :: scrL c s C S L) H) (h : C.rows[S.row]? = some r)
    (hv : DpAll c.K F vals (cells.map Cell.data)) (hl : cells.length = S.wide)
    (k : ∀ C' H', ScrAt c F C' (S.setCells cells) → C'.rows[S.row]? = some { r with cl := q, vals := vals, row := { r.row with cells := cells } } → Hold F (scrL c s C' (S.setCells cells) L) H' → QH H') : aPut c.K (.ref r.a) (.ref q) "cells" H QH := by
  have hlt := (List.getElem?_eq_some_iff.mp h).1
  have W1 : Hold F ((r.a, rowO c r.dx r.cl r.row.goes) :: (r.cl, .lst r.vals) :: (q, .lst vals) :: (s, scrO c C S) :: (C.r, rdO c C.rdx S.rd) :: (ownR c (C.rows.eraseIdx S.row) ++ L)) H := by
    refine W.perm ((List.Perm.cons (q, HO.lst vals) (((((ownR_out h).append_right L).cons (C.r, rdO c C.rdx S.rd)).cons (s, scrO c C S)))).trans ?_)
    exact List.perm_append_comm_assoc [(q, HO.lst vals), (s, scrO c C S), (C.r, rdO c C.rdx S.rd)] [(r.a, rowO c r.dx r.cl r.row.goes), (r.cl, HO.lst r.vals)] _
  refine x_put0 W1 R.cl R.n_cells fsRow_len fsRow_p0 fun H' W' => ?_
  rw [setCells_eq A h] at k
  refine k { C with rows := C.rows.set S.row { r with cl := q, vals := vals, row := { r.row with cells := cells } } } H' (A.setRow (r' := { r with cl := q, vals := vals, row := { r.row with cells := cells } }) h rfl hv hl) (by show (C.rows.set S.row _)[S.row]? = _; rw [List.getElem?_set_self hlt]) ?_
  refine Hold.row2Back (C := C) (r' := { r with cl := q, vals := vals, row := { r.row with cells := cells } }) ?_ hlt
  exact W'.sub (List.Sublist.cons₂ _ (List.sublist_cons_self _ _))
theorem type1_wf {S : Scr} (w : S.Wf) (n : Nat) : (S.type1 n).Wf := by
  have hw : ∀ p ∈ (S.setCells ((S.rowAt S.row).cells.set S.column ⟨n, S.pen⟩)).rows, p.cells.length = S.wide := by
    intro p hp
    have hp' : p ∈ S.rows.set S.row { S.rowAt S.row with cells := (S.rowAt S.row).cells.set S.column ⟨n, S.pen⟩ } := hp
    rcases List.mem_or_eq_of_mem_set hp' with h | h
    · exact w.rw p h
    · rw [h]
      show ((S.rowAt S.row).cells.set S.column _).length = S.wide
      rw [List.length_set]
      refine w.rw _ ?_
      unfold Scr.rowAt
      have hlt : S.row < S.rows.length := by rw [w.rl]; exact w.row
      rw [List.getD_eq_getElem?_getD, List.getElem?_eq_getElem hlt]
      exact List.getElem_mem hlt
  have hl : (S.setCells ((S.rowAt S.row).cells.set S.column ⟨n, S.pen⟩)).rows.length = S.high := by
    show (S.rows.set _ _).length = _
    rw [List.length_set, w.rl]
  unfold Scr.type1 Scr.next
  split
  · exact ⟨w.w1, w.w2, w.h1, w.h2, w.m, hl, hw, w.pl, w.pw, w.row, w.column, w.tb, w.bh, w.rd⟩
  · rename_i hc
    have hc' : ¬ S.column = S.wide - 1 := hc
    exact ⟨w.w1, w.w2, w.h1, w.h2, w.m, hl, hw, w.pl, w.pw, w.row, by show S.column + 1 < S.wide; have := w.column; omega, w.tb, w.bh, w.rd⟩
theorem rd_Screen_put (R : FScreen c) (RR : FRow c) : RD N_Screen_put (t_Screen_put c) (sp_Screen_put c) := by
  have cl := R.cl
  have n1 := R.n_bottom
  have n2 := R.n_row
  have n3 := R.n_rows
  have n4 := R.n_high
  have n5 := R.n_is_full
  have n6 := R.n_pen
  have n7 := R.n_column
  have n8 := R.n_wide
  rintro vs H Q E ⟨s, C, S, n, F, L, rfl, A, W, kk⟩
  unfold t_Screen_put
  refine x_cut (fun σ' H' => ∃ C1 F1, σ' = [some (.ref s), some (.str (T [n]))] ∧ Same F F1 ∧ ScrAt c F1 C1 S.wrap ∧ Hold F1 (scrL c s C1 S.wrap L) H') ?_ ?_
  · walk_at "r"
    refine w2 (fun h => ?_) (fun h => ?_)
    · refine x_seq (x_sfld (orV_of (a := decide (S.row = S.bottom)) (b := decide (S.row < S.high - 1)) (H1 := H) (fun Rr hR => ?_) (fun Rr hR => ?_) ?_))
      · walk_at "r"
        have e : decide ((S.row : Int) = (S.bottom : Int)) = decide (S.row = S.bottom) := by rw [Bool.eq_iff_iff, decide_eq_true_eq, decide_eq_true_eq]; omega
        rw [e]; exact hR
      · walk_at "r"
        have e : decide ((S.row : Int) < (S.high : Int) - 1) = decide (S.row < S.high - 1) := by have := A.wf.h1; rw [Bool.eq_iff_iff, decide_eq_true_eq, decide_eq_true_eq]; omega
        rw [e]; exact hR
      obtain ⟨r, hr, _⟩ := row_of A A.wf.row
      walk_at "r"
      refine x_rowIx A W hr ?_
      refine x_goes RR A W hr fun C1 H1 A1 W1 => ?_
      walk_at "r"
      refine ⟨s, C1, _, F, L, rfl, A1, W1, fun C2 F2 H2 s2 A2 W2 => ?_⟩
      walk_at "r"
      refine ⟨s, C2, _, _, 0, F2, L, rfl, A2, W2.st, fun C3 F3 H3 s3 A3 W3 => ?_⟩
      walk_at "r"
      have e : S.wrap = (let S1 := (S.setGoes S.row (decide (S.row = S.bottom) || decide (S.row < S.high - 1))).down; S1.stand S1.row 0) := if_pos h
      rw [e]
      exact ⟨C3, F3, rfl, s2.trans s3, A3, W3⟩
    · walk_at "r"
      have e : S.wrap = S := if_neg (by rw [h]; decide)
      rw [e]
      exact ⟨C, F, rfl, Same.refl F, A, W⟩
  · rintro σ' H1 ⟨C1, F1, rfl, s1, A1, W1⟩
    have ep : S.put n = S.wrap.type1 n := rfl
    rw [ep] at kk
    generalize S.wrap = S1 at A1 W1 kk
    walk_at "r"
    refine n_tupF W1 (sz rfl) fun p F2 H2 s2 h2 W2 => ?_
    have A2 := A1.gr (Gr.of s2)
    obtain ⟨r, hr, _, _, hrow, _⟩ := row_of A2 A2.wf.row
    refine x_gsub ?_
    walk_at "r"
    refine x_rowIx A2 W2 hr (x_cells RR W2 hr ?_)
    walk_at "r"
    have hv : Dp c.K F2 (.ref p) (Cell.mk n S1.pen).data := .tup (st_of h2) (.cons (.str _) (.cons A2.pen .nil))
    refine x_cellSet (x := ⟨n, S1.pen⟩) A2 W2 hr A2.wf.column hv fun C3 H3 A3 W3 => ?_
    walk_at "r"
    refine x_put0 W3 cl R.n_last fsScreen_len fsScreen_p13 fun H4 W4 => ?_
    walk_at "r"
    have wf1 := type1_wf A2.wf n
    have et : S1.type1 n = Scr.next { S1.setCells (r.row.cells.set S1.column ⟨n, S1.pen⟩) with last := some n } := by unfold Scr.type1; rw [hrow]
    rw [et] at kk wf1
    unfold Scr.next at kk wf1
    refine wD (fun h => ?_) (fun h => ?_)
    · have h' : S1.column = S1.wide - 1 := by
        have : (S1.column : Int) = (S1.wide : Int) - 1 := h
        have := A2.wf.w1
        omega
      rw [if_pos (show (S1.setCells (r.row.cells.set S1.column ⟨n, S1.pen⟩)).column = (S1.setCells (r.row.cells.set S1.column ⟨n, S1.pen⟩)).wide - 1 from h')] at kk wf1
      walk_at "r"
      refine x_put0 W4 cl n5 fsScreen_len fsScreen_p8 fun H5 W5 => ?_
      walk_at "r"
      exact kk C3 F2 H5 (s1.trans s2) ⟨wf1, A3.rows, A3.past, A3.vals, A3.pr, A3.pp, A3.pin, A3.pen, A3.pb⟩ W5
    · have h' : ¬ S1.column = S1.wide - 1 := fun z => h (by
        show (S1.column : Int) = (S1.wide : Int) - 1
        have := A2.wf.w1
        omega)
      rw [if_neg (show ¬ (S1.setCells (r.row.cells.set S1.column ⟨n, S1.pen⟩)).column = (S1.setCells (r.row.cells.set S1.column ⟨n, S1.pen⟩)).wide - 1 from h')] at kk wf1
      walk_at "r"
      refine x_put0 W4 cl n7 fsScreen_len fsScreen_p7 fun H5 W5 => ?_
      walk_at "r"
      exact kk C3 F2 H5 (s1.trans s2) ⟨wf1, A3.rows, A3.past, A3.vals, A3.pr, A3.pp, A3.pin, A3.pen, A3.pb⟩ W5
theorem fsPart_g1 {r w h m p : V} : (fsPart r w h m p).lookup ("wide" : Str) = some w := by kernel_rfl
theorem fsPart_g2 {r w h m p : V} : (fsPart r w h m p).lookup ("high" : Str) = some h := by kernel_rfl
theorem rd_Screen_begin (U : Tups c) (R : FScreen c) : RD N_Screen_begin (t_Screen_begin c) (sp_Screen_begin c) := by
  have cl := R.cl
  have n4 := R.n_high
  rintro vs H Q E ⟨s, C, S, fs, F, L, rfl, hfs, P, W, kk⟩
  have h2 := P.h2
  have fin : ∀ (D : Addr) (fr : List RowC) (F1 : Hp) (p : Addr) (F2 H2 : Hp), Same F F1 → fr.length = S.high → (∀ r ∈ fr, r.row = blankRow S.wide ∧ cellsAt c F1 r) → F1 D = some (.lst (rowRefs fr)) → Same F1 F2 → F2 p = some (.tup [.int 0, .int 0, .ref c.aPLAIN]) →
      Hold F2 ((s, .ins c.cScreen C.dx (fsScreen (.ref C.r) (.int (S.wide : Nat)) (.int (S.high : Nat)) (.int (S.most : Nat)) (.ref C.pp) (.ref D) (.int 0) (.int 0) (.bl false) (.ref c.aPLAIN) (.int 0) (.int ((S.high : Int) - 1)) (.ref p) .non)) :: (C.r, rdO c C.rdx S.rd) :: (ownR c fr ++ L)) H2 → Q .non H2 := by
    intro D fr F1 p F2 H2 s1 hfl hfr hD s2 h2 W2
    have e : (S.high : Int) - 1 = ((S.high - 1 : Nat) : Int) := by have := P.h1; omega
    rw [e] at W2
    have g : Gr F F2 := (Gr.of s1).trans (Gr.of s2)
    have ef : fr.map (·.row) = List.replicate S.high (blankRow S.wide) := List.eq_replicate_iff.mpr ⟨by rw [List.length_map, hfl], fun p hp => by obtain ⟨r, hr, rfl⟩ := List.mem_map.mp hp; exact (hfr r hr).1⟩
    refine kk { C with pr := D, penv := .ref c.aPLAIN, pbv := .ref p, rows := fr } F2 H2 (s1.trans s2) ⟨⟨P.w1, P.w2, P.h1, P.h2, P.m, ?_, fun q hq => ?_, P.pl, P.pw, ?_, ?_, Nat.zero_le _, ?_, P.rd⟩, ef, P.past, fun r hr => (Gr.of s2).dpAll (hfr r hr).2, s2 _ _ hD, g.lst P.pp, fun r hr => ?_, U.plain F2, ⟨p, .ref c.aPLAIN, rfl, st_of h2, U.plain F2⟩⟩ W2
    · exact List.length_replicate
    · rw [List.eq_of_mem_replicate (show q ∈ List.replicate S.high (blankRow S.wide) from hq)]; exact List.length_replicate
    · show 0 < S.high; have := P.h1; omega
    · show 0 < S.wide; have := P.w1; omega
    · show S.high - 1 < S.high; have := P.h1; omega
    · obtain ⟨x1, x2, x3⟩ := P.pin r hr
      exact ⟨g.ins x1, g.lst x2, g.dpAll x3⟩
  unfold t_Screen_begin
  rcases hfs with hfs | hfs
  · have hfs' := (HO.ins.inj hfs).2.2
    subst hfs'
    refine x_seq (x_sfld (x_lc (x_irng1 (x_cons (x_fld (x_var rfl (x_get W.get0 cl n4 fsScreen_g2 ?_)))))))
    refine x_nil ?_
    refine x_irng1' (by omega) (by omega) ?_
    rw [Int.toNat_natCast]
    refine x_fresh R ItOk.rng W rfl fsScreen_g1 P.w2 (by omega) (by decide) rfl fun D fr F1 H1 s1 hfl hfr hD W1 => ?_
    refine x_var rfl ?_
    refine x_put0 W1 cl R.n_rows fsScreen_len fsScreen_p5 fun H2 W2 => ?_
    refine x_seq (x_sfld (x_c (x_var rfl ?_)))
    refine x_put0 W2 cl R.n_row fsScreen_len fsScreen_p6 fun H3 W3 => ?_
    refine x_seq (x_sfld (x_c (x_var rfl ?_)))
    refine x_put0 W3 cl R.n_column fsScreen_len fsScreen_p7 fun H4 W4 => ?_
    refine x_seq (x_sfld (x_c (x_var rfl ?_)))
    refine x_put0 W4 cl R.n_is_full fsScreen_len fsScreen_p8 fun H5 W5 => ?_
    refine x_seq (x_sfld (x_c (x_var rfl ?_)))
    refine x_put0 W5 cl R.n_pen fsScreen_len fsScreen_p9 fun H6 W6 => ?_
    refine x_seq (x_sfld (x_c (x_var rfl ?_)))
    refine x_put0 W6 cl R.n_top fsScreen_len fsScreen_p10 fun H7 W7 => ?_
    refine x_seq (x_sfld (x_op (x_fld (x_var rfl (x_get W7.get0 cl n4 fsScreen_g2 (x_c (l_subI (x_var rfl ?_))))))))
    refine x_put0 W7 cl R.n_bottom fsScreen_len fsScreen_p11 fun H8 W8 => ?_
    refine x_seq (x_sfld (x_tup (x_cons (x_c (x_cons (x_c (x_cons (x_c (x_nil ?_)))))))))
    refine n_tupF W8 (sz rfl) fun p F2 H9 s2 h2 W9 => ?_
    refine x_var rfl ?_
    refine x_put0 W9 cl R.n_put_by fsScreen_len fsScreen_p12 fun H10 W10 => ?_
    refine x_sfld (x_c (x_var rfl ?_))
    refine x_put0 W10 cl R.n_last fsScreen_len fsScreen_p13 fun H11 W11 => ?_
    exact fin D fr F1 p F2 H11 s1 hfl hfr hD s2 h2 W11
  · subst hfs
    refine x_seq (x_sfld (x_lc (x_irng1 (x_cons (x_fld (x_var rfl (x_get W.get0 cl n4 fsPart_g2 ?_)))))))
    refine x_nil ?_
    refine x_irng1' (by omega) (by omega) ?_
    rw [Int.toNat_natCast]
    refine x_fresh R ItOk.rng W rfl fsPart_g1 P.w2 (by omega) (by decide) rfl fun D fr F1 H1 s1 hfl hfr hD W1 => ?_
    refine x_var rfl ?_
    refine x_put0 (fs' := [("reader", .ref C.r), ("wide", .int (S.wide : Nat)), ("high", .int (S.high : Nat)), ("most", .int (S.most : Nat)), ("past", .ref C.pp), ("rows", .ref D)]) W1 cl R.n_rows (by show 5 < 1000; decide) (by kernel_rfl) fun H2 W2 => ?_
    refine x_seq (x_sfld (x_c (x_var rfl ?_)))
    refine x_put0 (fs' := [("reader", .ref C.r), ("wide", .int (S.wide : Nat)), ("high", .int (S.high : Nat)), ("most", .int (S.most : Nat)), ("past", .ref C.pp), ("rows", .ref D), ("row", .int 0)]) W2 cl R.n_row (by show 6 < 1000; decide) (by kernel_rfl) fun H3 W3 => ?_
    refine x_seq (x_sfld (x_c (x_var rfl ?_)))
    refine x_put0 (fs' := [("reader", .ref C.r), ("wide", .int (S.wide : Nat)), ("high", .int (S.high : Nat)), ("most", .int (S.most : Nat)), ("past", .ref C.pp), ("rows", .ref D), ("row", .int 0), ("column", .int 0)]) W3 cl R.n_column (by show 7 < 1000; decide) (by kernel_rfl) fun H4 W4 => ?_
    refine x_seq (x_sfld (x_c (x_var rfl ?_)))
    refine x_put0 (fs' := [("reader", .ref C.r), ("wide", .int (S.wide : Nat)), ("high", .int (S.high : Nat)), ("most", .int (S.most : Nat)), ("past", .ref C.pp), ("rows", .ref D), ("row", .int 0), ("column", .int 0), ("is_full", .bl false)]) W4 cl R.n_is_full (by show 8 < 1000; decide) (by kernel_rfl) fun H5 W5 => ?_
    refine x_seq (x_sfld (x_c (x_var rfl ?_)))
    refine x_put0 (fs' := [("reader", .ref C.r), ("wide", .int (S.wide : Nat)), ("high", .int (S.high : Nat)), ("most", .int (S.most : Nat)), ("past", .ref C.pp), ("rows", .ref D), ("row", .int 0), ("column", .int 0), ("is_full", .bl false), ("pen", .ref c.aPLAIN)]) W5 cl R.n_pen (by show 9 < 1000; decide) (by kernel_rfl) fun H6 W6 => ?_
    refine x_seq (x_sfld (x_c (x_var rfl ?_)))
    refine x_put0 (fs' := [("reader", .ref C.r), ("wide", .int (S.wide : Nat)), ("high", .int (S.high : Nat)), ("most", .int (S.most : Nat)), ("past", .ref C.pp), ("rows", .ref D), ("row", .int 0), ("column", .int 0), ("is_full", .bl false), ("pen", .ref c.aPLAIN), ("top", .int 0)]) W6 cl R.n_top (by show 10 < 1000; decide) (by kernel_rfl) fun H7 W7 => ?_
    refine x_seq (x_sfld (x_op (x_fld (x_var rfl (x_get (v := .int (S.high : Nat)) W7.get0 cl n4 (by kernel_rfl) (x_c (l_subI (x_var rfl ?_))))))))
    refine x_put0 (fs' := [("reader", .ref C.r), ("wide", .int (S.wide : Nat)), ("high", .int (S.high : Nat)), ("most", .int (S.most : Nat)), ("past", .ref C.pp), ("rows", .ref D), ("row", .int 0), ("column", .int 0), ("is_full", .bl false), ("pen", .ref c.aPLAIN), ("top", .int 0), ("bottom", .int ((S.high : Int) - 1))]) W7 cl R.n_bottom (by show 11 < 1000; decide) (by kernel_rfl) fun H8 W8 => ?_
    refine x_seq (x_sfld (x_tup (x_cons (x_c (x_cons (x_c (x_cons (x_c (x_nil ?_)))))))))
    refine n_tupF W8 (sz rfl) fun p F2 H9 s2 h2 W9 => ?_
    refine x_var rfl ?_
    refine x_put0 (fs' := [("reader", .ref C.r), ("wide", .int (S.wide : Nat)), ("high", .int (S.high : Nat)), ("most", .int (S.most : Nat)), ("past", .ref C.pp), ("rows", .ref D), ("row", .int 0), ("column", .int 0), ("is_full", .bl false), ("pen", .ref c.aPLAIN), ("top", .int 0), ("bottom", .int ((S.high : Int) - 1)), ("put_by", .ref p)]) W9 cl R.n_put_by (by show 12 < 1000; decide) (by kernel_rfl) fun H10 W10 => ?_
    refine x_sfld (x_c (x_var rfl ?_))
    refine x_put0 (fs' := [("reader", .ref C.r), ("wide", .int (S.wide : Nat)), ("high", .int (S.high : Nat)), ("most", .int (S.most : Nat)), ("past", .ref C.pp), ("rows", .ref D), ("row", .int 0), ("column", .int 0), ("is_full", .bl false), ("pen", .ref c.aPLAIN), ("top", .int 0), ("bottom", .int ((S.high : Int) - 1)), ("put_by", .ref p), ("last", .non)]) W10 cl R.n_last (by show 13 < 1000; decide) (by kernel_rfl) fun H11 W11 => ?_
    exact fin D fr F1 p F2 H11 s1 hfl hfr hD s2 h2 W11
end
end Ss
/-! ## Screens: erase, small -/
namespace Ss
open PySem PySem.Spec PyProof.Rows L2
open Ss in
local macro_rules | `(tactic| walk_at "fg") => `(tactic| first | with_reducible exact fsScreen_g0 | with_reducible exact fsScreen_g1 | with_reducible exact fsScreen_g2 | with_reducible exact fsScreen_g3 | with_reducible exact fsScreen_g4 | with_reducible exact fsScreen_g5 | with_reducible exact fsScreen_g6 | with_reducible exact fsScreen_g7 | with_reducible exact fsScreen_g8 | with_reducible exact fsScreen_g9 | with_reducible exact fsScreen_g10 | with_reducible exact fsScreen_g11 | with_reducible exact fsScreen_g12 | with_reducible exact fsScreen_g13 | with_reducible exact fsRow_g0 | with_reducible exact fsRow_g1 | with_reducible exact fsReader_g0 | with_reducible exact fsReader_g1)
open Ss in
local macro_rules | `(tactic| walk_at "r") => `(tactic| repeat (first
  | with_reducible refine x_seq ?_ | with_reducible refine x_asg ?_ | with_reducible refine x_var rfl ?_ | with_reducible refine x_c ?_ | with_reducible refine x_op ?_ | with_reducible refine x_name ?_ | with_reducible refine x_gcons ?_ | with_reducible refine x_gnil ?_
  | with_reducible refine x_cons ?_ | with_reducible refine x_nil ?_ | with_reducible refine x_cb ?_ | with_reducible refine x_ifs ?_ | with_reducible refine x_test ?_ | with_reducible refine x_bl ?_
  | with_reducible refine g_addNN ?_ | with_reducible refine g_addNL ?_ | with_reducible refine g_addLN ?_ | with_reducible refine l_addI ?_ | with_reducible refine l_subI ?_ | with_reducible refine g_ltNL ?_ | with_reducible refine l_ltI ?_ | with_reducible refine l_leI ?_ | with_reducible refine l_gtI ?_ | with_reducible refine l_geI ?_ | with_reducible refine l_eqX ?_ | with_reducible refine l_neX ?_ | with_reducible refine g_eqNL ?_ | with_reducible refine l_eqII ?_ | with_reducible refine l_neII ?_ | with_reducible refine l_eq rfl ?_ | with_reducible refine l_ne rfl ?_
  | with_reducible refine x_fld ?_ | with_reducible refine x_ret ?_ | with_reducible refine x_drop ?_ | with_reducible refine x_next ?_ | with_reducible refine x_tup ?_ | with_reducible refine x_lst ?_ | with_reducible refine x_f ?_ | with_reducible refine x_o ?_ | with_reducible refine x_n ?_
  | with_reducible refine x_bm ?_ | with_reducible refine x_bm0 ?_ | with_reducible refine x_m1 ?_ | with_reducible refine x_m0 ?_ | with_reducible refine x_isstr ?_ | with_reducible refine x_tystr ?_ | with_reducible refine x_sl ?_ | with_reducible refine x_part ?_ | with_reducible refine x_part' ?_ | with_reducible refine x_nopart ?_
  | with_reducible refine x_sfld ?_ | with_reducible refine x_if ?_ | with_reducible refine x_isty ?_ | with_reducible refine x_chain ?_ | with_reducible refine x_andV ?_ | with_reducible refine x_orV ?_ | with_reducible refine x_notV ?_ | with_reducible refine x_B ?_ | with_reducible refine x_and ?_ | with_reducible refine x_or ?_ | with_reducible refine x_not ?_ | with_reducible refine x_tru ?_ | with_reducible refine x_yes ?_
  | with_reducible refine x_un ?_ | with_reducible refine x_neg ?_ | with_reducible refine x_par ?_ | with_reducible refine x_par' ?_ | with_reducible refine x_retN ?_ | with_reducible refine x_brk ?_ | with_reducible refine x_cont ?_ | with_reducible refine x_rz ?_
  | with_reducible refine l_leS ?_ | with_reducible refine l_ltS ?_ | with_reducible refine l_inX ?_ | with_reducible refine l_niX ?_ | with_reducible refine l_inS ?_ | with_reducible refine l_niS ?_ | with_reducible refine l_count ?_ | with_reducible refine l_ord ?_ | with_reducible refine l_max ?_ | with_reducible refine l_min ?_ | with_reducible refine l_intI ?_ | with_reducible refine l_intB ?_ | with_reducible refine l_is ?_ | with_reducible refine l_isn ?_
  | with_reducible refine g_modNL (by decide) ?_ | with_reducible refine g_divNL (by decide) (by decide) ?_ | with_reducible refine l_modI (by decide) ?_ | with_reducible refine x_for ?_ | with_reducible refine x_lc ?_ | with_reducible refine x_ilist ?_ | with_reducible refine x_itup ?_ | with_reducible refine x_istr ?_ | with_reducible refine x_istr' ?_ | with_reducible refine x_irng1 ?_ | with_reducible refine x_irng2 ?_
  | (with_reducible refine x_get (by first | assumption | exact Hold.get0 (by assumption) | exact Hold.get1 (by assumption)) (by assumption) (by assumption) (by walk_at "fg") ?_)
  | (with_reducible refine x_ao (by first | assumption | exact Hold.get0 (by assumption) | exact Hold.get1 (by assumption)) (by kernel_rfl) ?_)
  | with_reducible refine x_ienum ?_ | with_reducible refine x_izip ?_ | with_reducible refine x_chain3 ?_
  | (with_reducible refine x_par2 ?_)
  | (with_reducible refine x_par3 ?_) | (with_reducible refine x_par3' ?_)))
def t_Screen_erase (c : Ctx) (E : XK) : TS :=
  (tSeq (tAsg (tOp (uIx c.K) (tFld c.K (tVar 0) "rows") (tFld c.K (tVar 0) "row")) (gName 2))
  (C8.tCut (tIfS (tTest (tOp (uEq c.K) (tVar 1) (tC (.str ⟨#[101]⟩)))) (sFld c.K (tVar 2) (tOp (uAdd c.K) (tSl (uSl c.K) (tFld c.K (tVar 2) "cells") tNoPart (tPart (tFld c.K (tVar 0) "column"))) (tOp (uMul c.K) (tLst (tCons (tC (v_BLANK c)) tNil)) (tOp uSub (tFld c.K (tVar 0) "wide") (tFld c.K (tVar 0) "column")))) "cells") (tIfS (tTest (tOp (uEq c.K) (tVar 1) (tC (.str ⟨#[98]⟩)))) (sFld c.K (tVar 2) (tOp (uAdd c.K) (tOp (uMul c.K) (tLst (tCons (tC (v_BLANK c)) tNil)) (tOp (uAdd c.K) (tFld c.K (tVar 0) "column") (tC (.int 1)))) (tSl (uSl c.K) (tFld c.K (tVar 2) "cells") (tPart (tOp (uAdd c.K) (tFld c.K (tVar 0) "column") (tC (.int 1)))) tNoPart)) "cells") (tIfS (tTest (tOp (uEq c.K) (tVar 1) (tC (.str ⟨#[107]⟩)))) (sFld c.K (tVar 2) (tOp (uMul c.K) (tLst (tCons (tC (v_BLANK c)) tNil)) (tFld c.K (tVar 0) "wide")) "cells") (sFld c.K (tVar 0) (tLc (iRng1 (tCons (tFld c.K (tVar 0) "high") tNil)) (gName 3) tYes (tF (sp_blank_row c) E0 (tCons (tFld c.K (tVar 0) "wide") tNil)) [3]) "rows")))) (C8.tCut (tIfS (tTest (tOp (uNe c.K) (tVar 1) (tC (.str ⟨#[98]⟩)))) (sFld c.K (tOp (uIx c.K) (tFld c.K (tVar 0) "rows") (tFld c.K (tVar 0) "row")) (tC (.bl false)) "goes_on") tNext) (sFld c.K (tVar 0) (tC (.bl false)) "is_full"))))
abbrev N_Screen_erase : List Str := ["self", "word", "row", "at"]

section
variable {c : Ctx}
theorem dpAll_take {K : PySem.W.Frag} {F : Hp} : ∀ {ys : List V} {ds : List PyData} (i : Nat), DpAll K F ys ds → DpAll K F (ys.take i) (ds.take i)
  | _, _, 0, _ => by rw [List.take_zero, List.take_zero]; exact .nil
  | _, _, _ + 1, .nil => .nil
  | _, _, i + 1, .cons a t => .cons a (dpAll_take i t)
theorem dpAll_drop {K : PySem.W.Frag} {F : Hp} : ∀ {ys : List V} {ds : List PyData} (i : Nat), DpAll K F ys ds → DpAll K F (ys.drop i) (ds.drop i)
  | _, _, 0, h => h
  | _, _, _ + 1, .nil => .nil
  | _, _, i + 1, .cons _ t => dpAll_drop i t
section
variable {K : PySem.W.Frag} {F H : Hp} {L : List (Addr × HO)} {Q : VK} {p : Addr} {xs : List V} {i j : Nat}
theorem n_to (W : Hold F L H) (hp : H p = some (.lst xs)) (k : ∀ (r : Addr) (F' H' : Hp), Same F F' → F' r = some (.lst (xs.take i)) → Hold F' L H' → Q (.ref r) H') : uSl K (.ref p) none (some (i : Int)) H Q :=
  n_slF W (sq_of hp) fun r F' H' s h W' => k r F' H' s (by rw [cutV_L, cutL_to] at h; exact h) W'
theorem n_from (W : Hold F L H) (hp : H p = some (.lst xs)) (k : ∀ (r : Addr) (F' H' : Hp), Same F F' → F' r = some (.lst (xs.drop i)) → Hold F' L H' → Q (.ref r) H') : uSl K (.ref p) (some (i : Int)) none H Q :=
  n_slF W (sq_of hp) fun r F' H' s h W' => k r F' H' s (by rw [cutV_L, cutL_from] at h; exact h) W'
/-- [v] * n -/
theorem n_repF {v : V} (W : Hold F L H) (hp : F p = some (.lst [v])) (h2 : i ≤ 1000) (k : ∀ (r : Addr) (F' H' : Hp), Same F F' → F' r = some (.lst (List.replicate i v)) → Hold F' L H' → Q (.ref r) H') : uMul K (.ref p) (.int (i : Int)) H Q :=
  n_mul1F W (W.old _ _ hp) (by omega) (fun r F' H' s h W' => k r F' H' s (by rw [Int.toNat_natCast] at h; exact h) W') (by omega)
theorem x_pairs_cons {σ : L2.St} {tk tv : TE} {ts : List (TE × TE)} {R : List (V × V) → Hp → Prop} (h : tk σ H fun k H1 => tv σ H1 fun v H2 => tPairs ts σ H2 fun ps H3 => R ((k, v) :: ps) H3) : tPairs ((tk, tv) :: ts) σ H R := h
theorem x_pairs_nil {σ : L2.St} {R : List (V × V) → Hp → Prop} (h : R [] H) : tPairs [] σ H R := h
theorem x_dget {σ : L2.St} {td ty : TE} (h : td σ H fun x H1 => ty σ H1 fun y H2 => ∃ a v, x = .ref a ∧ DGet H2 a y (some v) ∧ Q v H2) : tDGet td ty σ H Q := h
end
def Scr.erase1 (S : Scr) (w : Nat) : Scr :=
  if w = 101 then S.setCells ((S.rowAt S.row).cells.take S.column ++ List.replicate (S.wide - S.column) blankCell)
    else if w = 98 then S.setCells (List.replicate (S.column + 1) blankCell ++ (S.rowAt S.row).cells.drop (S.column + 1))
    else if w = 107 then S.setCells (List.replicate S.wide blankCell)
    else { S with rows := List.replicate S.high (blankRow S.wide) }
def Scr.erase2 (S : Scr) (w : Nat) : Scr := if w = 98 then S.erase1 w else (S.erase1 w).setGoes (S.erase1 w).row false
theorem erase_eq (S : Scr) (w : Nat) : S.erase w = { S.erase2 w with full := false } := rfl
theorem one_in {F : Hp} {r : RowC} (A : cellsAt c F r) : r.vals.length = r.row.cells.length := by
  have := dpAll_len A
  rwa [List.length_map] at this
theorem row_w {C : ScrC} {S : Scr} {F : Hp} {r : RowC} (A : ScrAt c F C S) (h : r ∈ C.rows) : r.row.cells.length = S.wide := A.wf.rw r.row (by rw [← A.rows]; exact List.mem_map_of_mem h)
theorem rd_Screen_erase (U : Tups c) (R : FScreen c) (RR : FRow c) : RD N_Screen_erase (t_Screen_erase c) (sp_Screen_erase c) := by
  have cl := R.cl
  have n2 := R.n_row
  have n3 := R.n_rows
  have n4 := R.n_high
  have n5 := R.n_is_full
  have n7 := R.n_column
  have n8 := R.n_wide
  rintro vs H Q E ⟨s, C, S, w, F, L, rfl, A, W, kk⟩
  have wf := A.wf
  have hw2 := wf.w2
  have hcol := wf.column
  obtain ⟨r, hr, _, hm, hrow, hlt⟩ := row_of A wf.row
  have hwr := row_w A hm
  have hvl := one_in (A.vals r hm)
  unfold t_Screen_erase
  walk_at "r"
  refine x_rowIx A W hr ?_
  walk_at "r"
  have dr : ∀ F1 n, DpAll c.K F1 (List.replicate n (.ref c.aBLANK)) ((List.replicate n blankCell).map Cell.data) := fun F1 n => by rw [List.map_replicate]; exact dp_rep (U.blank F1) n
  refine x_cut (fun σ' H' => ∃ C1 F1 s3, σ' = [some (.ref s), some (.str (T [w])), some (.ref r.a), s3] ∧ Same F F1 ∧ ScrAt c F1 C1 (S.erase1 w) ∧ Hold F1 (scrL c s C1 (S.erase1 w) L) H') ?_ ?_
  · walk_at "r"
    refine wD (fun h => ?_) (fun h => ?_)
    · have h' : w = 101 := one1.mp h
      have e : S.erase1 w = S.setCells ((S.rowAt S.row).cells.take S.column ++ List.replicate (S.wide - S.column) blankCell) := if_pos h'
      rw [e, hrow]
      walk_at "r"
      refine x_cells RR W hr ?_
      walk_at "r"
      refine n_to W (cl_at W hr) fun q1 F1 H1 s1 h1 W1 => ?_
      walk_at "r"
      refine n_lstF W1 (sz rfl) fun q2 F2 H2 s2 h2 W2 => ?_
      walk_at "r"
      have e2 : ((S.wide : Nat) : Int) - ((S.column : Nat) : Int) = ((S.wide - S.column : Nat) : Int) := by omega
      rw [e2]
      refine n_repF W2 h2 (by omega) fun q3 F3 H3 s3 h3 W3 => ?_
      refine n_addL W3 (W3.old _ _ (s3 _ _ (s2 _ _ h1))) (W3.old _ _ h3) (szl (by simp only [List.length_take, List.length_replicate]; omega)) fun q4 H4 W4 => ?_
      walk_at "r"
      have s03 : Same F F3 := (s1.trans s2).trans s3
      have A3 := A.gr (Gr.of s03)
      refine x_cellsPut RR A3 W4 hr (cells := r.row.cells.take S.column ++ List.replicate (S.wide - S.column) blankCell) ?_ ?_ fun C1 H5 A5 _ W5 => ?_
      · rw [List.map_append, List.map_take]
        exact dpAll_app (dpAll_take _ ((Gr.of s03).dpAll (A.vals r hm))) (dr _ _)
      · simp only [List.length_append, List.length_take, List.length_replicate]; omega
      · walk_at "r"
        exact ⟨C1, F3, _, rfl, s03, A5, W5⟩
    · have h' : ¬ w = 101 := fun z => h (one1.mpr z)
      walk_at "r"
      refine wD (fun hb => ?_) (fun hb => ?_)
      · have hb' : w = 98 := one1.mp hb
        have e : S.erase1 w = S.setCells (List.replicate (S.column + 1) blankCell ++ (S.rowAt S.row).cells.drop (S.column + 1)) := by unfold Scr.erase1; rw [if_neg h', if_pos hb']
        rw [e, hrow]
        walk_at "r"
        refine n_lstF W (sz rfl) fun q2 F2 H2 s2 h2 W2 => ?_
        walk_at "r"
        refine n_repF W2 h2 (by show S.column + 1 ≤ 1000; omega) fun q3 F3 H3 s3 h3 W3 => ?_
        walk_at "r"
        have s03 : Same F F3 := s2.trans s3
        have A3 := A.gr (Gr.of s03)
        refine x_cells RR W3 hr ?_
        walk_at "r"
        refine n_from W3 (cl_at W3 hr) fun q1 F1 H1 s1 h1 W1 => ?_
        refine n_addL W1 (W1.old _ _ (s1 _ _ h3)) (W1.old _ _ h1) (szl (by simp only [List.length_drop, List.length_replicate]; show S.column + 1 + _ ≤ _; omega)) fun q4 H4 W4 => ?_
        walk_at "r"
        have A1 := A3.gr (Gr.of s1)
        refine x_cellsPut RR A1 W4 hr (cells := List.replicate (S.column + 1) blankCell ++ r.row.cells.drop (S.column + 1)) ?_ ?_ fun C1 H5 A5 _ W5 => ?_
        · rw [List.map_append, List.map_drop]
          exact dpAll_app (dr _ _) (dpAll_drop _ ((Gr.of (s03.trans s1)).dpAll (A.vals r hm)))
        · simp only [List.length_append, List.length_drop, List.length_replicate]; omega
        · walk_at "r"
          exact ⟨C1, F1, _, rfl, s03.trans s1, A5, W5⟩
      · have hb' : ¬ w = 98 := fun z => hb (one1.mpr z)
        walk_at "r"
        refine wD (fun hk => ?_) (fun hk => ?_)
        · have hk' : w = 107 := one1.mp hk
          have e : S.erase1 w = S.setCells (List.replicate S.wide blankCell) := by unfold Scr.erase1; rw [if_neg h', if_neg hb', if_pos hk']
          rw [e]
          walk_at "r"
          refine n_lstL W (sz rfl) fun q2 H2 W2 => ?_
          walk_at "r"
          refine n_mul1L W2 W2.get0 (by omega) (fun q3 H3 W3 => ?_) (by omega)
          rw [Int.toNat_natCast] at W3
          walk_at "r"
          have W4 : Hold F ((q3, .lst (List.replicate S.wide (.ref c.aBLANK))) :: scrL c s C S L) H3 := W3.sub (List.Sublist.cons₂ _ (List.sublist_cons_self _ _))
          refine x_cellsPut RR A W4 hr (cells := List.replicate S.wide blankCell) (dr _ _) List.length_replicate fun C1 H5 A5 _ W5 => ?_
          walk_at "r"
          exact ⟨C1, F, _, rfl, Same.refl F, A5, W5⟩
        · have hk' : ¬ w = 107 := fun z => hk (one1.mpr z)
          have e : S.erase1 w = { S with rows := List.replicate S.high (blankRow S.wide) } := by unfold Scr.erase1; rw [if_neg h', if_neg hb', if_neg hk']
          rw [e]
          walk_at "r"
          have hh2 := wf.h2
          refine x_irng1' (by omega) (by omega) ?_
          rw [Int.toNat_natCast]
          refine x_fresh R ItOk.rng W rfl fsScreen_g1 wf.w2 (by omega) (by decide) rfl fun D fr F2 H2 s2 hfl hfr hD W2 => ?_
          walk_at "r"
          refine x_put0 W2 cl n3 fsScreen_len fsScreen_p5 fun H3 W3 => ?_
          walk_at "r"
          have A2 := A.gr (Gr.of s2)
          have ef : fr.map (·.row) = List.replicate S.high (blankRow S.wide) := List.eq_replicate_iff.mpr ⟨by rw [List.length_map, hfl], fun p hp => by obtain ⟨r, hr, rfl⟩ := List.mem_map.mp hp; exact (hfr r hr).1⟩
          refine ⟨{ C with pr := D, rows := fr }, F2, _, rfl, s2, ⟨⟨wf.w1, wf.w2, wf.h1, wf.h2, wf.m, List.length_replicate, fun q hq => ?_, wf.pl, wf.pw, wf.row, wf.column, wf.tb, wf.bh, wf.rd⟩, ef, A2.past, fun r hr => (hfr r hr).2, hD, A2.pp, A2.pin, A2.pen, A2.pb⟩, ?_⟩
          · rw [List.eq_of_mem_replicate (show q ∈ List.replicate S.high (blankRow S.wide) from hq)]; exact List.length_replicate
          · exact W3.sub (((List.Sublist.refl (ownR c fr)).append (List.sublist_append_right _ _)).cons₂ _ |>.cons₂ _)
  · rintro σ' H1 ⟨C1, F1, s3, rfl, s1, A1, W1⟩
    rw [erase_eq] at kk
    refine x_cut (fun σ' H' => ∃ C2 s3, σ' = [some (.ref s), some (.str (T [w])), some (.ref r.a), s3] ∧ ScrAt c F1 C2 (S.erase2 w) ∧ Hold F1 (scrL c s C2 (S.erase2 w) L) H') ?_ ?_
    · walk_at "r"
      refine wN (fun h => ?_) (fun h => ?_)
      · have h' : ¬ w = 98 := fun z => h (one1.mpr z)
        have e : S.erase2 w = (S.erase1 w).setGoes (S.erase1 w).row false := if_neg h'
        rw [e]
        obtain ⟨r1, hr1, _⟩ := row_of A1 A1.wf.row
        walk_at "r"
        refine x_rowIx A1 W1 hr1 ?_
        refine x_goes RR A1 W1 hr1 fun C2 H2 A2 W2 => ?_
        exact ⟨C2, s3, rfl, A2, W2⟩
      · have h' : w = 98 := one1.mp h
        have e : S.erase2 w = S.erase1 w := if_pos h'
        rw [e]
        walk_at "r"
        exact ⟨C1, s3, rfl, A1, W1⟩
    · rintro σ2 H2 ⟨C2, s4, rfl, A2, W2⟩
      generalize S.erase2 w = S2 at A2 W2 kk
      walk_at "r"
      refine x_put0 W2 cl n5 fsScreen_len fsScreen_p8 fun H3 W3 => ?_
      walk_at "r"
      have w2 := A2.wf
      exact kk C2 F1 H3 s1 ⟨⟨w2.w1, w2.w2, w2.h1, w2.h2, w2.m, w2.rl, w2.rw, w2.pl, w2.pw, w2.row, w2.column, w2.tb, w2.bh, w2.rd⟩, A2.rows, A2.past, A2.vals, A2.pr, A2.pp, A2.pin, A2.pen, A2.pb⟩ W3
end
end Ss
/-! ## Screens: small -/
namespace Ss
open PySem PySem.Spec PyProof.Rows L2
open Ss in
local macro_rules | `(tactic| walk_at "fg") => `(tactic| first | with_reducible exact fsScreen_g0 | with_reducible exact fsScreen_g1 | with_reducible exact fsScreen_g2 | with_reducible exact fsScreen_g3 | with_reducible exact fsScreen_g4 | with_reducible exact fsScreen_g5 | with_reducible exact fsScreen_g6 | with_reducible exact fsScreen_g7 | with_reducible exact fsScreen_g8 | with_reducible exact fsScreen_g9 | with_reducible exact fsScreen_g10 | with_reducible exact fsScreen_g11 | with_reducible exact fsScreen_g12 | with_reducible exact fsScreen_g13 | with_reducible exact fsRow_g0 | with_reducible exact fsRow_g1 | with_reducible exact fsReader_g0 | with_reducible exact fsReader_g1)
open Ss in
local macro_rules | `(tactic| walk_at "r") => `(tactic| repeat (first
  | with_reducible refine x_seq ?_ | with_reducible refine x_asg ?_ | with_reducible refine x_var rfl ?_ | with_reducible refine x_c ?_ | with_reducible refine x_op ?_ | with_reducible refine x_name ?_ | with_reducible refine x_gcons ?_ | with_reducible refine x_gnil ?_
  | with_reducible refine x_cons ?_ | with_reducible refine x_nil ?_ | with_reducible refine x_cb ?_ | with_reducible refine x_ifs ?_ | with_reducible refine x_test ?_ | with_reducible refine x_bl ?_
  | with_reducible refine g_addNN ?_ | with_reducible refine g_addNL ?_ | with_reducible refine g_addLN ?_ | with_reducible refine l_addI ?_ | with_reducible refine l_subI ?_ | with_reducible refine g_ltNL ?_ | with_reducible refine l_ltI ?_ | with_reducible refine l_leI ?_ | with_reducible refine l_gtI ?_ | with_reducible refine l_geI ?_ | with_reducible refine l_eqX ?_ | with_reducible refine l_neX ?_ | with_reducible refine g_eqNL ?_ | with_reducible refine l_eqII ?_ | with_reducible refine l_neII ?_ | with_reducible refine l_eq rfl ?_ | with_reducible refine l_ne rfl ?_
  | with_reducible refine x_fld ?_ | with_reducible refine x_ret ?_ | with_reducible refine x_drop ?_ | with_reducible refine x_next ?_ | with_reducible refine x_tup ?_ | with_reducible refine x_lst ?_ | with_reducible refine x_f ?_ | with_reducible refine x_o ?_ | with_reducible refine x_n ?_
  | with_reducible refine x_bm ?_ | with_reducible refine x_bm0 ?_ | with_reducible refine x_m1 ?_ | with_reducible refine x_m0 ?_ | with_reducible refine x_isstr ?_ | with_reducible refine x_tystr ?_ | with_reducible refine x_sl ?_ | with_reducible refine x_part ?_ | with_reducible refine x_part' ?_ | with_reducible refine x_nopart ?_
  | with_reducible refine x_sfld ?_ | with_reducible refine x_if ?_ | with_reducible refine x_isty ?_ | with_reducible refine x_chain ?_ | with_reducible refine x_andV ?_ | with_reducible refine x_orV ?_ | with_reducible refine x_notV ?_ | with_reducible refine x_B ?_ | with_reducible refine x_and ?_ | with_reducible refine x_or ?_ | with_reducible refine x_not ?_ | with_reducible refine x_tru ?_ | with_reducible refine x_yes ?_
  | with_reducible refine x_un ?_ | with_reducible refine x_neg ?_ | with_reducible refine x_par ?_ | with_reducible refine x_par' ?_ | with_reducible refine x_retN ?_ | with_reducible refine x_brk ?_ | with_reducible refine x_cont ?_ | with_reducible refine x_rz ?_
  | with_reducible refine l_leS ?_ | with_reducible refine l_ltS ?_ | with_reducible refine l_inX ?_ | with_reducible refine l_niX ?_ | with_reducible refine l_inS ?_ | with_reducible refine l_niS ?_ | with_reducible refine l_count ?_ | with_reducible refine l_ord ?_ | with_reducible refine l_max ?_ | with_reducible refine l_min ?_ | with_reducible refine l_intI ?_ | with_reducible refine l_intB ?_ | with_reducible refine l_is ?_ | with_reducible refine l_isn ?_
  | with_reducible refine g_modNL (by decide) ?_ | with_reducible refine g_divNL (by decide) (by decide) ?_ | with_reducible refine l_modI (by decide) ?_ | with_reducible refine x_for ?_ | with_reducible refine x_lc ?_ | with_reducible refine x_ilist ?_ | with_reducible refine x_itup ?_ | with_reducible refine x_istr ?_ | with_reducible refine x_istr' ?_ | with_reducible refine x_irng1 ?_ | with_reducible refine x_irng2 ?_
  | (with_reducible refine x_get (by first | assumption | exact Hold.get0 (by assumption) | exact Hold.get1 (by assumption)) (by assumption) (by assumption) (by walk_at "fg") ?_)
  | (with_reducible refine x_ao (by first | assumption | exact Hold.get0 (by assumption) | exact Hold.get1 (by assumption)) (by kernel_rfl) ?_)
  | with_reducible refine x_ienum ?_ | with_reducible refine x_izip ?_ | with_reducible refine x_chain3 ?_
  | (with_reducible refine x_par2 ?_)
  | (with_reducible refine x_par3 ?_) | (with_reducible refine x_par3' ?_)))
def t_Screen_small (c : Ctx) (E : XK) : TS :=
  (tIfS (tTest (tOp (uIn c.K) (tVar 1) (tTup (tCons (tC (.str ⟨#[117]⟩)) (tCons (tC (.str ⟨#[100]⟩)) (tCons (tC (.str ⟨#[108]⟩)) (tCons (tC (.str ⟨#[114]⟩)) tNil))))))) (tSeq (tAsg (tDGet (tDisp [((tC (.str ⟨#[117]⟩)), (tTup (tCons (tUn (rU fun i => .int (-i)) (tC (.int 1))) (tCons (tC (.int 0)) tNil)))), ((tC (.str ⟨#[100]⟩)), (tTup (tCons (tC (.int 1)) (tCons (tC (.int 0)) tNil)))), ((tC (.str ⟨#[108]⟩)), (tTup (tCons (tC (.int 0)) (tCons (tUn (rU fun i => .int (-i)) (tC (.int 1))) tNil)))), ((tC (.str ⟨#[114]⟩)), (tTup (tCons (tC (.int 0)) (tCons (tC (.int 1)) tNil))))]) (tVar 1)) (gName 2))
  (tDrop (tO c.cScreen "stand" (sp_Screen_stand c) E0 (tVar 0) (tCons (tOp (uAdd c.K) (tFld c.K (tVar 0) "row") (tOp (uIx c.K) (tVar 2) (tC (.int 0)))) (tCons (tOp (uAdd c.K) (tFld c.K (tVar 0) "column") (tOp (uIx c.K) (tVar 2) (tC (.int 1)))) tNil))))) (tIfS (tTest (tOp (uEq c.K) (tVar 1) (tC (.str ⟨#[104]⟩)))) (tDrop (tO c.cScreen "stand" (sp_Screen_stand c) E0 (tVar 0) (tCons (tC (.int 0)) (tCons (tC (.int 0)) tNil)))) (tIfS (tTest (tOp (uIn c.K) (tVar 1) (tTup (tCons (tC (.str ⟨#[110]⟩)) (tCons (tC (.str ⟨#[112]⟩)) tNil))))) (C8.tCut (tIfS (tTest (tOp (uEq c.K) (tVar 1) (tC (.str ⟨#[110]⟩)))) (tDrop (tO c.cScreen "down" (sp_Screen_down c) E0 (tVar 0) tNil)) (tDrop (tO c.cScreen "up" (sp_Screen_up c) E0 (tVar 0) tNil))) (tDrop (tO c.cScreen "stand" (sp_Screen_stand c) E0 (tVar 0) (tCons (tFld c.K (tVar 0) "row") (tCons (tFld c.K (tVar 0) "column") tNil))))) (tIfS (tTest (tOp (uIn c.K) (tVar 1) (tTup (tCons (tC (.str ⟨#[101]⟩)) (tCons (tC (.str ⟨#[98]⟩)) (tCons (tC (.str ⟨#[107]⟩)) (tCons (tC (.str ⟨#[99]⟩)) tNil))))))) (tDrop (tO c.cScreen "erase" (sp_Screen_erase c) E0 (tVar 0) (tCons (tVar 1) tNil))) (tIfS (tTest (tOp (uEq c.K) (tVar 1) (tC (.str ⟨#[115]⟩)))) (sFld c.K (tVar 0) (tTup (tCons (tFld c.K (tVar 0) "row") (tCons (tFld c.K (tVar 0) "column") (tCons (tFld c.K (tVar 0) "pen") tNil)))) "put_by") (tIfS (tTest (tOp (uEq c.K) (tVar 1) (tC (.str ⟨#[116]⟩)))) (tSeq (tDrop (tO c.cScreen "stand" (sp_Screen_stand c) E0 (tVar 0) (tCons (tOp (uIx c.K) (tFld c.K (tVar 0) "put_by") (tC (.int 0))) (tCons (tOp (uIx c.K) (tFld c.K (tVar 0) "put_by") (tC (.int 1))) tNil))))
  (sFld c.K (tVar 0) (tOp (uIx c.K) (tFld c.K (tVar 0) "put_by") (tC (.int 2))) "pen")) (tIfS (tTest (tOp (uEq c.K) (tVar 1) (tC (.str ⟨#[122]⟩)))) (tDrop (tO c.cScreen "begin" (sp_Screen_begin c) E0 (tVar 0) tNil)) tNext)))))))
abbrev N_Screen_small : List Str := ["self", "word", "by"]

section
variable {c : Ctx}
theorem get4a {a b d e : V} : valV (mergeK [] [(Sum.inr (T [117]), a), (Sum.inr (T [100]), b), (Sum.inr (T [108]), d), (Sum.inr (T [114]), e)]) (Sum.inr (T [117])) = some a := by kernel_rfl
theorem get4b {a b d e : V} : valV (mergeK [] [(Sum.inr (T [117]), a), (Sum.inr (T [100]), b), (Sum.inr (T [108]), d), (Sum.inr (T [114]), e)]) (Sum.inr (T [100])) = some b := by kernel_rfl
theorem get4c {a b d e : V} : valV (mergeK [] [(Sum.inr (T [117]), a), (Sum.inr (T [100]), b), (Sum.inr (T [108]), d), (Sum.inr (T [114]), e)]) (Sum.inr (T [108])) = some d := by kernel_rfl
theorem get4d {a b d e : V} : valV (mergeK [] [(Sum.inr (T [117]), a), (Sum.inr (T [100]), b), (Sum.inr (T [108]), d), (Sum.inr (T [114]), e)]) (Sum.inr (T [114])) = some e := by kernel_rfl
theorem dget_of {H : Hp} {a : Addr} {kvs : List (Key × V)} {z : Str} {v : V} (h : H a = some (.dK kvs)) (e : valV kvs (Sum.inr z) = some v) : DGet H a (.str z) (some v) := by
  have := DGet.k (k := Sum.inr z) h
  rw [e] at this; exact this
theorem l_ixT' {K : PySem.W.Frag} {H : Hp} {Q : VK} {x v : V} {p : Addr} {xs : List V} {i : Int} (ex : x = .ref p) (hp : SqT K H p xs) (ha : atI xs i = some v) (h : Q v H) : uIx K x (.int i) H Q := by subst ex; exact l_ixT hp ha h
theorem ScrAt.pre {F : Hp} {C : ScrC} {S : Scr} (A : ScrAt c F C S) : PreAt c F C S := ⟨A.wf.w1, A.wf.w2, A.wf.h1, A.wf.h2, A.wf.m, A.wf.pl, A.wf.pw, A.wf.rd, A.past, A.pp, A.pin⟩
theorem rd_Screen_small (R : FScreen c) : RD N_Screen_small (t_Screen_small c) (sp_Screen_small c) := by
  have cl := R.cl
  have n2 := R.n_row
  have n6 := R.n_pen
  have n7 := R.n_column
  have n9 := R.n_put_by
  rintro vs H Q E ⟨s, C, S, w, F, L, rfl, A, W, kk⟩
  have wf := A.wf
  unfold t_Screen_small
  walk_at "r"
  refine n_tupF W (sz rfl) fun p1 F1 H1 s1 h1 W1 => ?_
  refine l_inC [117, 100, 108, 114] (st_of (W1.old _ _ h1)) ?_
  walk_at "r"
  have A1 := A.gr (Gr.of s1)
  refine wD (fun h => ?_) (fun h => ?_)
  · walk_at "r"
    refine x_dget fun p hp => ?_
    have W2 := W1.make (o := .dK []) hp
    refine x_pairs_cons ?_
    walk_at "r"
    refine n_tupF W2 (sz rfl) fun q1 F3 H3 s3 h3 W3 => ?_
    refine x_pairs_cons ?_
    walk_at "r"
    refine n_tupF W3 (sz rfl) fun q2 F4 H4 s4 h4 W4 => ?_
    refine x_pairs_cons ?_
    walk_at "r"
    refine n_tupF W4 (sz rfl) fun q3 F5 H5 s5 h5 W5 => ?_
    refine x_pairs_cons ?_
    walk_at "r"
    refine n_tupF W5 (sz rfl) fun q4 F6 H6 s6 h6 W6 => ?_
    refine x_pairs_nil ⟨W6.get0, [(Sum.inr (T [117]), .ref q1), (Sum.inr (T [100]), .ref q2), (Sum.inr (T [108]), .ref q3), (Sum.inr (T [114]), .ref q4)], rfl, by show 4 ≤ 15; decide, ?_⟩
    have W7 := W6.put0 (o' := .dK (mergeK [] [(Sum.inr (T [117]), .ref q1), (Sum.inr (T [100]), .ref q2), (Sum.inr (T [108]), .ref q3), (Sum.inr (T [114]), .ref q4)]))
    have W8 := W7.drop
    have s16 : Same F F6 := (((s1.trans s3).trans s4).trans s5).trans s6
    have A6 := A.gr (Gr.of s16)
    walk_at "r"
    have h' : w = 117 ∨ w = 100 ∨ w = 108 ∨ w = 114 := by simpa using h
    rcases h' with rfl | rfl | rfl | rfl
    · refine ⟨p, .ref q1, rfl, dget_of W7.get0 get4a, ?_⟩
      have e : S.small 117 = S.stand ((S.row : Int) + -1) ((S.column : Int) + 0) := by rw [Int.add_zero]; rfl
      rw [e] at kk
      walk_at "r"
      refine l_ixT (st_of (W8.old _ _ (s6 _ _ (s5 _ _ (s4 _ _ h3))))) rfl ?_
      walk_at "r"
      refine l_ixT (st_of (W8.old _ _ (s6 _ _ (s5 _ _ (s4 _ _ h3))))) rfl ?_
      walk_at "r"
      refine ⟨s, C, S, _, _, F6, L, rfl, A6, W8.st, fun C2 F8 H8 s8 A8 W9 => ?_⟩
      walk_at "r"
      exact kk C2 F8 H8 (s16.trans s8) A8 W9
    · refine ⟨p, .ref q2, rfl, dget_of W7.get0 get4b, ?_⟩
      have e : S.small 100 = S.stand ((S.row : Int) + 1) ((S.column : Int) + 0) := by rw [Int.add_zero]; rfl
      rw [e] at kk
      walk_at "r"
      refine l_ixT (st_of (W8.old _ _ (s6 _ _ (s5 _ _ h4)))) rfl ?_
      walk_at "r"
      refine l_ixT (st_of (W8.old _ _ (s6 _ _ (s5 _ _ h4)))) rfl ?_
      walk_at "r"
      refine ⟨s, C, S, _, _, F6, L, rfl, A6, W8.st, fun C2 F8 H8 s8 A8 W9 => ?_⟩
      walk_at "r"
      exact kk C2 F8 H8 (s16.trans s8) A8 W9
    · refine ⟨p, .ref q3, rfl, dget_of W7.get0 get4c, ?_⟩
      have e : S.small 108 = S.stand ((S.row : Int) + 0) ((S.column : Int) + -1) := by rw [Int.add_zero]; rfl
      rw [e] at kk
      walk_at "r"
      refine l_ixT (st_of (W8.old _ _ (s6 _ _ h5))) rfl ?_
      walk_at "r"
      refine l_ixT (st_of (W8.old _ _ (s6 _ _ h5))) rfl ?_
      walk_at "r"
      refine ⟨s, C, S, _, _, F6, L, rfl, A6, W8.st, fun C2 F8 H8 s8 A8 W9 => ?_⟩
      walk_at "r"
      exact kk C2 F8 H8 (s16.trans s8) A8 W9
    · refine ⟨p, .ref q4, rfl, dget_of W7.get0 get4d, ?_⟩
      have e : S.small 114 = S.stand ((S.row : Int) + 0) ((S.column : Int) + 1) := by rw [Int.add_zero]; rfl
      rw [e] at kk
      walk_at "r"
      refine l_ixT (st_of (W8.old _ _ h6)) rfl ?_
      walk_at "r"
      refine l_ixT (st_of (W8.old _ _ h6)) rfl ?_
      walk_at "r"
      refine ⟨s, C, S, _, _, F6, L, rfl, A6, W8.st, fun C2 F8 H8 s8 A8 W9 => ?_⟩
      walk_at "r"
      exact kk C2 F8 H8 (s16.trans s8) A8 W9
  · have h' : ¬ w = 117 ∧ ¬ w = 100 ∧ ¬ w = 108 ∧ ¬ w = 114 := by simpa using h
    obtain ⟨m1, m2, m3, m4⟩ := h'
    walk_at "r"
    refine wD (fun h => ?_) (fun h => ?_)
    · have hw : w = 104 := one1.mp h
      subst hw
      walk_at "r"
      refine ⟨s, C, S, 0, 0, F1, L, rfl, A1, W1.st, fun C2 F8 H8 s8 A8 W9 => ?_⟩
      walk_at "r"
      exact kk C2 F8 H8 (s1.trans s8) A8 W9
    have m5 : ¬ w = 104 := fun z => h (one1.mpr z)
    walk_at "r"
    refine n_tupF W1 (sz rfl) fun p2 F2 H2 s2 h2 W2 => ?_
    refine l_inC [110, 112] (st_of (W2.old _ _ h2)) ?_
    walk_at "r"
    have A2 := A1.gr (Gr.of s2)
    have s02 : Same F F2 := s1.trans s2
    refine wD (fun h => ?_) (fun h => ?_)
    · have h' : w = 110 ∨ w = 112 := by simpa using h
      refine x_cut (fun σ' H' => ∃ C3 F3, σ' = [some (.ref s), some (.str (T [w])), none] ∧ Same F F3 ∧ ScrAt c F3 C3 (if w = 110 then S.down else S.up) ∧ Hold F3 (scrL c s C3 (if w = 110 then S.down else S.up) L) H') ?_ ?_
      · walk_at "r"
        refine wD (fun h => ?_) (fun h => ?_)
        · have hw : w = 110 := one1.mp h
          rw [if_pos hw]
          walk_at "r"
          refine ⟨s, C, S, F2, L, rfl, A2, W2, fun C2 F8 H8 s8 A8 W9 => ?_⟩
          walk_at "r"
          exact ⟨C2, F8, rfl, s02.trans s8, A8, W9⟩
        · rw [if_neg (fun z => h (one1.mpr z))]
          walk_at "r"
          refine ⟨s, C, S, F2, L, rfl, A2, W2, fun C2 F8 H8 s8 A8 W9 => ?_⟩
          walk_at "r"
          exact ⟨C2, F8, rfl, s02.trans s8, A8, W9⟩
      · rintro σ' H3 ⟨C3, F3, rfl, s3, A3, W3⟩
        have e : S.small w = (if w = 110 then S.down else S.up).stand (if w = 110 then S.down else S.up).row (if w = 110 then S.down else S.up).column := by
          rcases h' with rfl | rfl <;> rfl
        rw [e] at kk
        generalize (if w = 110 then S.down else S.up) = S3 at A3 W3 kk
        walk_at "r"
        refine ⟨s, C3, S3, _, _, F3, L, rfl, A3, W3.st, fun C2 F8 H8 s8 A8 W9 => ?_⟩
        walk_at "r"
        exact kk C2 F8 H8 (s3.trans s8) A8 W9
    have h' : ¬ w = 110 ∧ ¬ w = 112 := by simpa using h
    obtain ⟨m6, m7⟩ := h'
    walk_at "r"
    refine n_tupF W2 (sz rfl) fun p3 F3 H3 s3 h3 W3 => ?_
    refine l_inC [101, 98, 107, 99] (st_of (W3.old _ _ h3)) ?_
    walk_at "r"
    have A3 := A2.gr (Gr.of s3)
    have s03 : Same F F3 := s02.trans s3
    refine wD (fun h => ?_) (fun h => ?_)
    · have h' : w = 101 ∨ w = 98 ∨ w = 107 ∨ w = 99 := by simpa using h
      have e : S.small w = S.erase w := by rcases h' with rfl | rfl | rfl | rfl <;> rfl
      rw [e] at kk
      walk_at "r"
      refine ⟨s, C, S, w, F3, L, rfl, A3, W3, fun C2 F8 H8 s8 A8 W9 => ?_⟩
      walk_at "r"
      exact kk C2 F8 H8 (s03.trans s8) A8 W9
    have m8 : ¬ (w = 101 ∨ w = 98 ∨ w = 107 ∨ w = 99) := by simpa using h
    have e0 : S.small w = (if w = 115 then { S with putBy := (S.row, S.column, S.pen) } else if w = 116 then { S.stand S.putBy.1 S.putBy.2.1 with pen := S.putBy.2.2 } else if w = 122 then S.begin else S) := by
      unfold Scr.small
      rw [if_neg m1, if_neg m2, if_neg m3, if_neg m4, if_neg m5, if_neg m6, if_neg m7, if_neg m8]
    rw [e0] at kk
    walk_at "r"
    refine wD (fun h => ?_) (fun h => ?_)
    · rw [if_pos (one1.mp h)] at kk
      walk_at "r"
      refine n_tupF W3 (sz rfl) fun p4 F4 H4 s4 h4 W4 => ?_
      walk_at "r"
      refine x_put0 W4 cl n9 fsScreen_len fsScreen_p12 fun H5 W5 => ?_
      walk_at "r"
      have A4 := A3.gr (Gr.of s4)
      exact kk { C with pbv := .ref p4 } F4 H5 (s03.trans s4) ⟨⟨wf.w1, wf.w2, wf.h1, wf.h2, wf.m, wf.rl, wf.rw, wf.pl, wf.pw, wf.row, wf.column, wf.tb, wf.bh, wf.rd⟩, A4.rows, A4.past, A4.vals, A4.pr, A4.pp, A4.pin, A4.pen, ⟨p4, C.penv, rfl, st_of h4, A4.pen⟩⟩ W5
    rw [if_neg (fun z => h (one1.mpr z))] at kk
    walk_at "r"
    refine wD (fun h => ?_) (fun h => ?_)
    · rw [if_pos (one1.mp h)] at kk
      walk_at "r"
      obtain ⟨q, pv, eq, hq, hd⟩ := A3.pb
      refine l_ixT' eq (W3.gr.sqT hq) rfl ?_
      walk_at "r"
      refine l_ixT' eq (W3.gr.sqT hq) rfl ?_
      walk_at "r"
      refine ⟨s, C, S, _, _, F3, L, rfl, A3, W3.st, fun C2 F8 H8 s8 A8 W9 => ?_⟩
      walk_at "r"
      obtain ⟨q2, pv2, eq2, hq2, hd2⟩ := A8.pb
      refine l_ixT' eq2 (W9.gr.sqT hq2) rfl ?_
      walk_at "r"
      refine x_put0 W9 cl n6 fsScreen_len fsScreen_p9 fun H5 W5 => ?_
      walk_at "r"
      have w8 := A8.wf
      exact kk { C2 with penv := pv2 } F8 H5 (s03.trans s8) ⟨⟨w8.w1, w8.w2, w8.h1, w8.h2, w8.m, w8.rl, w8.rw, w8.pl, w8.pw, w8.row, w8.column, w8.tb, w8.bh, w8.rd⟩, A8.rows, A8.past, A8.vals, A8.pr, A8.pp, A8.pin, hd2, A8.pb⟩ W5
    rw [if_neg (fun z => h (one1.mpr z))] at kk
    walk_at "r"
    refine wD (fun h => ?_) (fun h => ?_)
    · rw [if_pos (one1.mp h)] at kk
      walk_at "r"
      refine ⟨s, C, S, _, F3, ownR c C.rows ++ L, rfl, .inl rfl, A3.pre, W3, fun C2 F8 H8 s8 A8 W9 => ?_⟩
      walk_at "r"
      refine kk C2 F8 H8 (s03.trans s8) A8 (W9.sub ?_)
      exact (((List.Sublist.refl (ownR c C2.rows)).append (List.sublist_append_right _ _)).cons₂ _).cons₂ _
    rw [if_neg (fun z => h (one1.mpr z))] at kk
    walk_at "r"
    exact kk C F3 H3 s03 A3 W3
end
end Ss
/-! ## Screens: shift, take_rows, one, great, do -/
namespace Ss
open PySem PySem.Spec PyProof.Rows L2
open Ss in
local macro_rules | `(tactic| walk_at "fg") => `(tactic| first | with_reducible exact fsScreen_g0 | with_reducible exact fsScreen_g1 | with_reducible exact fsScreen_g2 | with_reducible exact fsScreen_g3 | with_reducible exact fsScreen_g4 | with_reducible exact fsScreen_g5 | with_reducible exact fsScreen_g6 | with_reducible exact fsScreen_g7 | with_reducible exact fsScreen_g8 | with_reducible exact fsScreen_g9 | with_reducible exact fsScreen_g10 | with_reducible exact fsScreen_g11 | with_reducible exact fsScreen_g12 | with_reducible exact fsScreen_g13 | with_reducible exact fsRow_g0 | with_reducible exact fsRow_g1 | with_reducible exact fsReader_g0 | with_reducible exact fsReader_g1)
open Ss in
local macro_rules | `(tactic| walk_at "r") => `(tactic| repeat (first
  | with_reducible refine x_seq ?_ | with_reducible refine x_asg ?_ | with_reducible refine x_var rfl ?_ | with_reducible refine x_c ?_ | with_reducible refine x_op ?_ | with_reducible refine x_name ?_ | with_reducible refine x_gcons ?_ | with_reducible refine x_gnil ?_
  | with_reducible refine x_cons ?_ | with_reducible refine x_nil ?_ | with_reducible refine x_cb ?_ | with_reducible refine x_ifs ?_ | with_reducible refine x_test ?_ | with_reducible refine x_bl ?_
  | with_reducible refine g_addNN ?_ | with_reducible refine g_addNL ?_ | with_reducible refine g_addLN ?_ | with_reducible refine l_addI ?_ | with_reducible refine l_subI ?_ | with_reducible refine g_ltNL ?_ | with_reducible refine l_ltI ?_ | with_reducible refine l_leI ?_ | with_reducible refine l_gtI ?_ | with_reducible refine l_geI ?_ | with_reducible refine l_eqX ?_ | with_reducible refine l_neX ?_ | with_reducible refine g_eqNL ?_ | with_reducible refine l_eqII ?_ | with_reducible refine l_neII ?_ | with_reducible refine l_eq rfl ?_ | with_reducible refine l_ne rfl ?_
  | with_reducible refine x_fld ?_ | with_reducible refine x_ret ?_ | with_reducible refine x_drop ?_ | with_reducible refine x_next ?_ | with_reducible refine x_tup ?_ | with_reducible refine x_lst ?_ | with_reducible refine x_f ?_ | with_reducible refine x_o ?_ | with_reducible refine x_n ?_
  | with_reducible refine x_bm ?_ | with_reducible refine x_bm0 ?_ | with_reducible refine x_m1 ?_ | with_reducible refine x_m0 ?_ | with_reducible refine x_isstr ?_ | with_reducible refine x_tystr ?_ | with_reducible refine x_sl ?_ | with_reducible refine x_part ?_ | with_reducible refine x_part' ?_ | with_reducible refine x_nopart ?_
  | with_reducible refine x_sfld ?_ | with_reducible refine x_if ?_ | with_reducible refine x_isty ?_ | with_reducible refine x_chain ?_ | with_reducible refine x_andV ?_ | with_reducible refine x_orV ?_ | with_reducible refine x_notV ?_ | with_reducible refine x_B ?_ | with_reducible refine x_and ?_ | with_reducible refine x_or ?_ | with_reducible refine x_not ?_ | with_reducible refine x_tru ?_ | with_reducible refine x_yes ?_
  | with_reducible refine x_un ?_ | with_reducible refine x_neg ?_ | with_reducible refine x_par ?_ | with_reducible refine x_par' ?_ | with_reducible refine x_retN ?_ | with_reducible refine x_brk ?_ | with_reducible refine x_cont ?_ | with_reducible refine x_rz ?_
  | with_reducible refine l_leS ?_ | with_reducible refine l_ltS ?_ | with_reducible refine l_inX ?_ | with_reducible refine l_niX ?_ | with_reducible refine l_inS ?_ | with_reducible refine l_niS ?_ | with_reducible refine l_count ?_ | with_reducible refine l_ord ?_ | with_reducible refine l_max ?_ | with_reducible refine l_min ?_ | with_reducible refine l_intI ?_ | with_reducible refine l_intB ?_ | with_reducible refine l_is ?_ | with_reducible refine l_isn ?_
  | with_reducible refine g_modNL (by decide) ?_ | with_reducible refine g_divNL (by decide) (by decide) ?_ | with_reducible refine l_modI (by decide) ?_ | with_reducible refine x_for ?_ | with_reducible refine x_lc ?_ | with_reducible refine x_ilist ?_ | with_reducible refine x_itup ?_ | with_reducible refine x_istr ?_ | with_reducible refine x_istr' ?_ | with_reducible refine x_irng1 ?_ | with_reducible refine x_irng2 ?_
  | (with_reducible refine x_get (by first | assumption | exact Hold.get0 (by assumption) | exact Hold.get1 (by assumption)) (by assumption) (by assumption) (by walk_at "fg") ?_)
  | (with_reducible refine x_ao (by first | assumption | exact Hold.get0 (by assumption) | exact Hold.get1 (by assumption)) (by kernel_rfl) ?_)
  | with_reducible refine x_ienum ?_ | with_reducible refine x_izip ?_ | with_reducible refine x_chain3 ?_
  | (with_reducible refine x_par2 ?_)
  | (with_reducible refine x_par3 ?_) | (with_reducible refine x_par3' ?_)))
def t_Screen_shift (c : Ctx) (E : XK) : TS :=
  (tSeq (tAsg (tOp (uIx c.K) (tFld c.K (tVar 0) "rows") (tFld c.K (tVar 0) "row")) (gName 3))
  (tSeq (tPar 4 5 (tCons (tSl (uSl c.K) (tFld c.K (tVar 3) "cells") tNoPart (tPart (tFld c.K (tVar 0) "column"))) (tCons (tSl (uSl c.K) (tFld c.K (tVar 3) "cells") (tPart (tFld c.K (tVar 0) "column")) tNoPart) tNil)))
  (C8.tCut (tIfS (tTest (tOp (uEq c.K) (tVar 1) (tC (.str ⟨#[88]⟩)))) (sFld c.K (tVar 3) (tOp (uAdd c.K) (tOp (uAdd c.K) (tVar 4) (tSl (uSl c.K) (tVar 5) (tPart (tVar 2)) tNoPart)) (tOp (uMul c.K) (tLst (tCons (tC (v_BLANK c)) tNil)) (tVar 2))) "cells") (sFld c.K (tVar 3) (tOp (uAdd c.K) (tOp (uAdd c.K) (tVar 4) (tOp (uMul c.K) (tLst (tCons (tC (v_BLANK c)) tNil)) (tVar 2))) (tSl (uSl c.K) (tVar 5) tNoPart (tPart (tOp uSub (tCB (uLen c.K) (tCons (tVar 5) tNil)) (tVar 2))))) "cells")) (tSeq (sFld c.K (tVar 3) (tC (.bl false)) "goes_on")
  (sFld c.K (tVar 0) (tC (.bl false)) "is_full")))))
abbrev N_Screen_shift : List Str := ["self", "word", "many", "row", "ahead", "rest"]

def t_Screen_take_rows (c : Ctx) (E : XK) : TS :=
  (tSeq (tAsg (tFld c.K (tVar 0) "past") (gName 2))
  (tSeq (tDrop (tO c.cScreen "roll" (sp_Screen_roll c) E0 (tVar 0) (tCons (tFld c.K (tVar 0) "row") (tCons (tVar 1) tNil))))
  (sFld c.K (tVar 0) (tVar 2) "past")))
abbrev N_Screen_take_rows : List Str := ["self", "number", "past"]

section
variable {c : Ctx}
def Scr.shiftCells (S : Scr) (w many : Nat) : List Cell :=
  if w = 88 then (S.rowAt S.row).cells.take S.column ++ ((S.rowAt S.row).cells.drop S.column).drop many ++ List.replicate many blankCell
  else (S.rowAt S.row).cells.take S.column ++ List.replicate many blankCell ++ ((S.rowAt S.row).cells.drop S.column).take (((S.rowAt S.row).cells.drop S.column).length - many)
theorem shift_eq (S : Scr) (w many : Nat) : S.shift w many = { (S.setCells (S.shiftCells w many)).setGoes S.row false with full := false } := rfl
theorem rd_Screen_shift (U : Tups c) (R : FScreen c) (RR : FRow c) : RD N_Screen_shift (t_Screen_shift c) (sp_Screen_shift c) := by
  have cl := R.cl
  have n2 := R.n_row
  have n3 := R.n_rows
  have n5 := R.n_is_full
  have n7 := R.n_column
  rintro vs H Q E ⟨s, C, S, w, many, F, L, rfl, hmany, A, W, kk⟩
  have wf := A.wf
  have hw2 := wf.w2
  have hcol := wf.column
  obtain ⟨r, hr, _, hm, hrow, hlt⟩ := row_of A wf.row
  have hwr := row_w A hm
  have hvl := one_in (A.vals r hm)
  rw [shift_eq] at kk
  unfold t_Screen_shift
  walk_at "r"
  refine x_rowIx A W hr ?_
  walk_at "r"
  have dr : ∀ F1 n, DpAll c.K F1 (List.replicate n (.ref c.aBLANK)) ((List.replicate n blankCell).map Cell.data) := fun F1 n => by rw [List.map_replicate]; exact dp_rep (U.blank F1) n
  refine x_cells RR W hr ?_
  walk_at "r"
  refine n_to W (cl_at W hr) fun q1 F1 H1 s1 h1 W1 => ?_
  walk_at "r"
  refine x_cells RR W1 hr ?_
  walk_at "r"
  refine n_from W1 (cl_at W1 hr) fun q2 F2 H2 s2 h2 W2 => ?_
  walk_at "r"
  refine ⟨_, _, rfl, ?_⟩
  refine x_cut (fun σ' H' => ∃ C1 F3 cl' vals', σ' = [some (.ref s), some (.str (T [w])), some (.int (many : Nat)), some (.ref r.a), some (.ref q1), some (.ref q2)] ∧ Same F F3 ∧ ScrAt c F3 C1 (S.setCells (S.shiftCells w many)) ∧
    C1.rows[S.row]? = some { r with cl := cl', vals := vals', row := { r.row with cells := S.shiftCells w many } } ∧ Hold F3 (scrL c s C1 (S.setCells (S.shiftCells w many)) L) H') ?_ ?_
  · walk_at "r"
    refine wD (fun h => ?_) (fun h => ?_)
    · have h' : w = 88 := one1.mp h
      have e : S.shiftCells w many = r.row.cells.take S.column ++ (r.row.cells.drop S.column).drop many ++ List.replicate many blankCell := by unfold Scr.shiftCells; rw [if_pos h', hrow]
      rw [e]
      walk_at "r"
      refine n_from W2 (W2.old _ _ h2) fun q3 F3 H3 s3 h3 W3 => ?_
      refine n_addF W3 (W3.old _ _ (s3 _ _ (s2 _ _ h1))) (W3.old _ _ h3) (szl (by simp only [List.length_take, List.length_drop]; omega)) fun q4 F4 H4 s4 h4 W4 => ?_
      walk_at "r"
      refine n_lstF W4 (sz rfl) fun q5 F5 H5 s5 h5 W5 => ?_
      walk_at "r"
      refine n_repF W5 h5 (by omega) fun q6 F6 H6 s6 h6 W6 => ?_
      refine n_addL W6 (W6.old _ _ (s6 _ _ (s5 _ _ h4))) (W6.old _ _ h6) (szl (by simp only [List.length_append, List.length_take, List.length_drop, List.length_replicate]; omega)) fun q7 H7 W7 => ?_
      walk_at "r"
      have s06 : Same F F6 := ((((s1.trans s2).trans s3).trans s4).trans s5).trans s6
      have A6 := A.gr (Gr.of s06)
      have v6 := (Gr.of s06).dpAll (A.vals r hm)
      refine x_cellsPut RR A6 W7 hr (cells := r.row.cells.take S.column ++ (r.row.cells.drop S.column).drop many ++ List.replicate many blankCell) ?_ ?_ fun C1 H8 A8 hr8 W8 => ?_
      · rw [List.map_append, List.map_append, List.map_take, List.map_drop, List.map_drop]
        exact dpAll_app (dpAll_app (dpAll_take _ v6) (dpAll_drop _ (dpAll_drop _ v6))) (dr _ _)
      · simp only [List.length_append, List.length_take, List.length_drop, List.length_replicate]; omega
      · walk_at "r"
        exact ⟨C1, F6, _, _, rfl, s06, A8, hr8, W8⟩
    · have h' : ¬ w = 88 := fun z => h (one1.mpr z)
      have e : S.shiftCells w many = r.row.cells.take S.column ++ List.replicate many blankCell ++ (r.row.cells.drop S.column).take ((r.row.cells.drop S.column).length - many) := by unfold Scr.shiftCells; rw [if_neg h', hrow]
      rw [e]
      walk_at "r"
      refine n_lstF W2 (sz rfl) fun q5 F5 H5 s5 h5 W5 => ?_
      walk_at "r"
      refine n_repF W5 h5 (by omega) fun q6 F6 H6 s6 h6 W6 => ?_
      refine n_addF W6 (W6.old _ _ (s6 _ _ (s5 _ _ (s2 _ _ h1)))) (W6.old _ _ h6) (szl (by simp only [List.length_take, List.length_replicate]; omega)) fun q4 F4 H4 s4 h4 W4 => ?_
      walk_at "r"
      have h2' := s4 _ _ (s6 _ _ (s5 _ _ h2))
      refine l_lenL (sq_of (W4.old _ _ h2')) ?_
      walk_at "r"
      have e2 : (((r.vals.drop S.column).length : Nat) : Int) - ((many : Nat) : Int) = (((r.row.cells.drop S.column).length - many : Nat) : Int) := by
        simp only [List.length_drop]; omega
      rw [e2]
      refine n_to W4 (W4.old _ _ h2') fun q3 F3 H3 s3 h3 W3 => ?_
      refine n_addL W3 (W3.old _ _ (s3 _ _ h4)) (W3.old _ _ h3) (szl (by simp only [List.length_append, List.length_take, List.length_drop, List.length_replicate]; omega)) fun q7 H7 W7 => ?_
      walk_at "r"
      have s06 : Same F F3 := ((((s1.trans s2).trans s5).trans s6).trans s4).trans s3
      have A6 := A.gr (Gr.of s06)
      have v6 := (Gr.of s06).dpAll (A.vals r hm)
      refine x_cellsPut RR A6 W7 hr (cells := r.row.cells.take S.column ++ List.replicate many blankCell ++ (r.row.cells.drop S.column).take ((r.row.cells.drop S.column).length - many)) ?_ ?_ fun C1 H8 A8 hr8 W8 => ?_
      · rw [List.map_append, List.map_append, List.map_take, List.map_take, List.map_drop]
        exact dpAll_app (dpAll_app (dpAll_take _ v6) (dr _ _)) (dpAll_take _ (dpAll_drop _ v6))
      · simp only [List.length_append, List.length_take, List.length_drop, List.length_replicate]; omega
      · walk_at "r"
        exact ⟨C1, F3, _, _, rfl, s06, A8, hr8, W8⟩
  · rintro σ' H3 ⟨C1, F3, cl', vals', rfl, s3, A3, hr3, W3⟩
    walk_at "r"
    refine x_goes (r := { r with cl := cl', vals := vals', row := { r.row with cells := S.shiftCells w many } }) RR A3 W3 hr3 fun C4 H4 A4 W4 => ?_
    walk_at "r"
    refine x_put0 W4 cl n5 fsScreen_len fsScreen_p8 fun H5 W5 => ?_
    walk_at "r"
    have w2 := A4.wf
    exact kk C4 F3 H5 s3 ⟨⟨w2.w1, w2.w2, w2.h1, w2.h2, w2.m, w2.rl, w2.rw, w2.pl, w2.pw, w2.row, w2.column, w2.tb, w2.bh, w2.rd⟩, A4.rows, A4.past, A4.vals, A4.pr, A4.pp, A4.pin, A4.pen, A4.pb⟩ W5
theorem rd_Screen_take_rows (R : FScreen c) : RD N_Screen_take_rows (t_Screen_take_rows c) (sp_Screen_take_rows c) := by
  have cl := R.cl
  have n2 := R.n_row
  have n3 := R.n_past
  rintro vs H Q E ⟨s, C, S, n, F, L, rfl, hb, A, W, kk⟩
  have wf := A.wf
  unfold t_Screen_take_rows
  walk_at "r"
  refine ⟨s, C, S, S.row, n, F, L, rfl, hb, A, W, fun C2 F2 H2 s2 A2 W2 => ?_⟩
  walk_at "r"
  refine x_put0 W2 cl n3 fsScreen_len fsScreen_p4 fun H3 W3 => ?_
  walk_at "r"
  have w2 := A2.wf
  have Ao := A.gr (Gr.of s2)
  have hm : (S.roll S.row n).most = S.most := by unfold Scr.roll Scr.cutOff; split <;> rfl
  have hw : (S.roll S.row n).wide = S.wide := by unfold Scr.roll Scr.cutOff; split <;> rfl
  exact kk { C2 with pp := C.pp, past := C.past } F2 H3 s2 ⟨⟨w2.w1, w2.w2, w2.h1, w2.h2, w2.m, w2.rl, w2.rw, by show S.past.length ≤ (S.roll S.row n).most; rw [hm]; exact wf.pl, by show ∀ p ∈ S.past, p.cells.length = (S.roll S.row n).wide; rw [hw]; exact wf.pw, w2.row, w2.column, w2.tb, w2.bh, w2.rd⟩, A2.rows, Ao.past, A2.vals, A2.pr, Ao.pp, Ao.pin, A2.pen, A2.pb⟩ W3
end
end Ss
/-! ## Screens: one, great, do -/
namespace Ss
open PySem PySem.Spec PyProof.Rows L2
open Ss in
local macro_rules | `(tactic| walk_at "fg") => `(tactic| first | with_reducible exact fsScreen_g0 | with_reducible exact fsScreen_g1 | with_reducible exact fsScreen_g2 | with_reducible exact fsScreen_g3 | with_reducible exact fsScreen_g4 | with_reducible exact fsScreen_g5 | with_reducible exact fsScreen_g6 | with_reducible exact fsScreen_g7 | with_reducible exact fsScreen_g8 | with_reducible exact fsScreen_g9 | with_reducible exact fsScreen_g10 | with_reducible exact fsScreen_g11 | with_reducible exact fsScreen_g12 | with_reducible exact fsScreen_g13 | with_reducible exact fsRow_g0 | with_reducible exact fsRow_g1 | with_reducible exact fsReader_g0 | with_reducible exact fsReader_g1)
open Ss in
local macro_rules | `(tactic| walk_at "r") => `(tactic| repeat (first
  | with_reducible refine x_seq ?_ | with_reducible refine x_asg ?_ | with_reducible refine x_var rfl ?_ | with_reducible refine x_c ?_ | with_reducible refine x_op ?_ | with_reducible refine x_name ?_ | with_reducible refine x_gcons ?_ | with_reducible refine x_gnil ?_
  | with_reducible refine x_cons ?_ | with_reducible refine x_nil ?_ | with_reducible refine x_cb ?_ | with_reducible refine x_ifs ?_ | with_reducible refine x_test ?_ | with_reducible refine x_bl ?_
  | with_reducible refine g_addNN ?_ | with_reducible refine g_addNL ?_ | with_reducible refine g_addLN ?_ | with_reducible refine l_addI ?_ | with_reducible refine l_subI ?_ | with_reducible refine g_ltNL ?_ | with_reducible refine l_ltI ?_ | with_reducible refine l_leI ?_ | with_reducible refine l_gtI ?_ | with_reducible refine l_geI ?_ | with_reducible refine l_eqX ?_ | with_reducible refine l_neX ?_ | with_reducible refine g_eqNL ?_ | with_reducible refine l_eqII ?_ | with_reducible refine l_neII ?_ | with_reducible refine l_eq rfl ?_ | with_reducible refine l_ne rfl ?_
  | with_reducible refine x_fld ?_ | with_reducible refine x_ret ?_ | with_reducible refine x_drop ?_ | with_reducible refine x_next ?_ | with_reducible refine x_tup ?_ | with_reducible refine x_lst ?_ | with_reducible refine x_f ?_ | with_reducible refine x_o ?_ | with_reducible refine x_n ?_
  | with_reducible refine x_bm ?_ | with_reducible refine x_bm0 ?_ | with_reducible refine x_m1 ?_ | with_reducible refine x_m0 ?_ | with_reducible refine x_isstr ?_ | with_reducible refine x_tystr ?_ | with_reducible refine x_sl ?_ | with_reducible refine x_part ?_ | with_reducible refine x_part' ?_ | with_reducible refine x_nopart ?_
  | with_reducible refine x_sfld ?_ | with_reducible refine x_if ?_ | with_reducible refine x_isty ?_ | with_reducible refine x_chain ?_ | with_reducible refine x_andV ?_ | with_reducible refine x_orV ?_ | with_reducible refine x_notV ?_ | with_reducible refine x_B ?_ | with_reducible refine x_and ?_ | with_reducible refine x_or ?_ | with_reducible refine x_not ?_ | with_reducible refine x_tru ?_ | with_reducible refine x_yes ?_
  | with_reducible refine x_un ?_ | with_reducible refine x_neg ?_ | with_reducible refine x_par ?_ | with_reducible refine x_par' ?_ | with_reducible refine x_retN ?_ | with_reducible refine x_brk ?_ | with_reducible refine x_cont ?_ | with_reducible refine x_rz ?_
  | with_reducible refine l_leS ?_ | with_reducible refine l_ltS ?_ | with_reducible refine l_inX ?_ | with_reducible refine l_niX ?_ | with_reducible refine l_inS ?_ | with_reducible refine l_niS ?_ | with_reducible refine l_count ?_ | with_reducible refine l_ord ?_ | with_reducible refine l_max ?_ | with_reducible refine l_min ?_ | with_reducible refine l_intI ?_ | with_reducible refine l_intB ?_ | with_reducible refine l_is ?_ | with_reducible refine l_isn ?_
  | with_reducible refine g_modNL (by decide) ?_ | with_reducible refine g_divNL (by decide) (by decide) ?_ | with_reducible refine l_modI (by decide) ?_ | with_reducible refine x_for ?_ | with_reducible refine x_lc ?_ | with_reducible refine x_ilist ?_ | with_reducible refine x_itup ?_ | with_reducible refine x_istr ?_ | with_reducible refine x_istr' ?_ | with_reducible refine x_irng1 ?_ | with_reducible refine x_irng2 ?_
  | (with_reducible refine x_get (by first | assumption | exact Hold.get0 (by assumption) | exact Hold.get1 (by assumption)) (by assumption) (by assumption) (by walk_at "fg") ?_)
  | (with_reducible refine x_ao (by first | assumption | exact Hold.get0 (by assumption) | exact Hold.get1 (by assumption)) (by kernel_rfl) ?_)
  | with_reducible refine x_ienum ?_ | with_reducible refine x_izip ?_ | with_reducible refine x_chain3 ?_
  | (with_reducible refine x_par2 ?_)
  | (with_reducible refine x_par3 ?_) | (with_reducible refine x_par3' ?_)))
def t_Screen_one (c : Ctx) (E : XK) : TS :=
  (tIfS (tTest (tOp (uIn c.K) (tVar 1) (tTup (tCons (tC (.str ⟨#[67]⟩)) (tCons (tC (.str ⟨#[66]⟩)) (tCons (tC (.str ⟨#[77]⟩)) tNil)))))) (tSeq (tAsg (tTM c.K (u_tix c.K) (tTup (tCons (tC (.str ⟨#[67]⟩)) (tCons (tC (.str ⟨#[66]⟩)) (tCons (tC (.str ⟨#[77]⟩)) tNil)))) (tCons (tVar 1) tNil)) (gName 3))
  (tIfS (tTest (tOp uLe (tVar 2) (tOp (uIx c.K) (tTup (tCons (tC (.int 7)) (tCons (tC (.int 7)) (tCons (tC (.int 3)) tNil)))) (tVar 3)))) (sFld c.K (tVar 0) (tOp (uAdd c.K) (tOp (uAdd c.K) (tSl (uSl c.K) (tFld c.K (tVar 0) "pen") tNoPart (tPart (tVar 3))) (tTup (tCons (tVar 2) tNil))) (tSl (uSl c.K) (tFld c.K (tVar 0) "pen") (tPart (tOp (uAdd c.K) (tVar 3) (tC (.int 1)))) tNoPart)) "pen") tNext)) (tIfS (tTest (tOp (uIn c.K) (tVar 1) (tTup (tCons (tC (.str ⟨#[88]⟩)) (tCons (tC (.str ⟨#[73]⟩)) tNil))))) (tDrop (tO c.cScreen "shift" (sp_Screen_shift c) E0 (tVar 0) (tCons (tVar 1) (tCons (tCB uMin (tCons (tVar 2) (tCons (tOp uSub (tFld c.K (tVar 0) "wide") (tFld c.K (tVar 0) "column")) tNil))) tNil)))) (tIfS (tAnd (tTest (tOp (uIn c.K) (tVar 1) (tTup (tCons (tC (.str ⟨#[68]⟩)) (tCons (tC (.str ⟨#[78]⟩)) tNil))))) (tTest (tChain uLe uLe (tFld c.K (tVar 0) "top") (tFld c.K (tVar 0) "row") (tFld c.K (tVar 0) "bottom")))) (C8.tCut (tIfS (tTest (tOp (uEq c.K) (tVar 1) (tC (.str ⟨#[68]⟩)))) (tDrop (tO c.cScreen "take_rows" (sp_Screen_take_rows c) E0 (tVar 0) (tCons (tVar 2) tNil))) (tDrop (tO c.cScreen "roll_down" (sp_Screen_roll_down c) E0 (tVar 0) (tCons (tFld c.K (tVar 0) "row") (tCons (tVar 2) tNil))))) (tDrop (tO c.cScreen "stand" (sp_Screen_stand c) E0 (tVar 0) (tCons (tFld c.K (tVar 0) "row") (tCons (tC (.int 0)) tNil))))) (tIfS (tAnd (tTest (tOp (uEq c.K) (tVar 1) (tC (.str ⟨#[74]⟩)))) (tTest (tOp uIsNot (tFld c.K (tVar 0) "last") (tC .non)))) (tFor (iRng1 (tCons (tCB uMin (tCons (tVar 2) (tCons (tOp (uMul c.K) (tFld c.K (tVar 0) "wide") (tFld c.K (tVar 0) "high")) tNil))) tNil)) (gName 3) (tDrop (tO c.cScreen "put" (sp_Screen_put c) E0 (tVar 0) (tCons (tFld c.K (tVar 0) "last") tNil)))) tNext))))
abbrev N_Screen_one : List Str := ["self", "word", "number", "at"]

section
variable {c : Ctx}
theorem if_and {σ : L2.St} {H1 : Hp} {QB : Bool → Hp → Prop} {tB' : TT} {a b : Bool} (hb : ∀ R : Bool → Hp → Prop, R b H1 → tB' σ H1 R) (q : QB (a && b) H1) : if a = true then tB' σ H1 QB else QB false H1 := by
  cases a
  · exact wF rfl q
  · exact wT rfl (hb _ q)
def penSet (p : Pen) : Nat → Nat → Pen
  | 0, n => (n, p.2)
  | 1, n => (p.1, n, p.2.2)
  | _, n => (p.1, p.2.1, n)
theorem pen_view {K : PySem.W.Frag} {F : Hp} {v : V} {p : Pen} (h : Dp K F v (penData p)) : ∃ q, v = .ref q ∧ SqT K F q [.int (p.1 : Nat), .int (p.2.1 : Nat), .int (p.2.2 : Nat)] := by
  cases h with
  | tup hs ha =>
    cases ha with
    | cons h1 h2 =>
      cases h1
      cases h2 with
      | cons h3 h4 =>
        cases h3
        cases h4 with
        | cons h5 h6 => cases h5; cases h6; exact ⟨_, rfl, hs⟩
theorem pen_mk {K : PySem.W.Frag} {F : Hp} {q : Addr} {p : Pen} (h : SqT K F q [.int (p.1 : Nat), .int (p.2.1 : Nat), .int (p.2.2 : Nat)]) : Dp K F (.ref q) (penData p) := .tup h (.cons (.int _) (.cons (.int _) (.cons (.int _) .nil)))
theorem n_slT' {K : PySem.W.Frag} {F H : Hp} {L : List (Addr × HO)} {Q : VK} {x : V} {p : Addr} {xs : List V} {lo hi : Option Int} (ex : x = .ref p) (W : Hold F L H) (hp : SqT K F p xs) (k : ∀ (r : Addr) (F' H' : Hp), Same F F' → SqT K F' r (cutV xs lo hi) → Hold F' L H' → Q (.ref r) H') : uSl K x lo hi H Q := by
  subst ex; exact n_slT W hp k
theorem put_last (S : Scr) (l : Nat) : (S.put l).last = some l := by
  unfold Scr.put Scr.type1 Scr.next
  split <;> rfl
theorem putMany_succ (l : Nat) : ∀ (k : Nat) (S : Scr), Scr.putMany l (k + 1) S = (Scr.putMany l k S).put l
  | 0, S => rfl
  | k + 1, S => by
    show Scr.putMany l (k + 1) (S.put l) = _
    rw [putMany_succ l k (S.put l)]; rfl
theorem putMany_last {l : Nat} {S : Scr} (h : S.last = some l) : ∀ k, (Scr.putMany l k S).last = some l
  | 0 => h
  | k + 1 => by rw [putMany_succ]; exact put_last _ _
theorem rd_Screen_one (R : FScreen c) : RD N_Screen_one (t_Screen_one c) (sp_Screen_one c) := by
  have cl := R.cl
  have n1 := R.n_bottom
  have n2 := R.n_row
  have n3 := R.n_top
  have n4 := R.n_high
  have n6 := R.n_pen
  have n7 := R.n_column
  have n8 := R.n_wide
  have n9 := R.n_last
  rintro vs H Q E ⟨s, C, S, w, n, F, L, rfl, A, W, kk⟩
  have wf := A.wf
  unfold t_Screen_one
  walk_at "r"
  refine n_tupF W (sz rfl) fun p1 F1 H1 s1 h1 W1 => ?_
  refine l_inC [67, 66, 77] (st_of (W1.old _ _ h1)) ?_
  walk_at "r"
  have A1 := A.gr (Gr.of s1)
  refine wD (fun h => ?_) (fun h => ?_)
  · have h' : w = 67 ∨ w = 66 ∨ w = 77 := by simpa using h
    obtain ⟨j, hj, hjw, ek⟩ : ∃ j, j ≤ 2 ∧ (∀ (p : Addr) H' (Q' : VK), SqT c.K H' p [.str (T [67]), .str (T [66]), .str (T [77])] → Q' (.int ((j : Nat) : Int)) H' → u_tix c.K (.ref p) [.str (T [w])] H' Q') ∧ S.one w n = if n ≤ [7, 7, 3].getD j 0 then { S with pen := penSet S.pen j n } else S := by
      rcases h' with rfl | rfl | rfl
      · exact ⟨0, by decide, fun p H' Q' hq q => ⟨p, [T [67], T [66], T [77]], T [67], 0, rfl, rfl, hq, rfl, fun m hm => absurd hm (Nat.not_lt_zero _), q⟩, rfl⟩
      · exact ⟨1, by decide, fun p H' Q' hq q => ⟨p, [T [67], T [66], T [77]], T [66], 1, rfl, rfl, hq, rfl, fun m hm => by
          have : m = 0 := by omega
          subst this; decide, q⟩, rfl⟩
      · exact ⟨2, by decide, fun p H' Q' hq q => ⟨p, [T [67], T [66], T [77]], T [77], 2, rfl, rfl, hq, rfl, fun m hm => by
          rcases (show m = 0 ∨ m = 1 by omega) with rfl | rfl <;> decide, q⟩, rfl⟩
    rw [ek] at kk
    refine x_seq (x_asg (x_tm ?_))
    walk_at "r"
    refine n_tupF W1 (sz rfl) fun p2 F2 H2 s2 h2 W2 => ?_
    refine ⟨⟨_, _, rfl, st_of (W2.old _ _ h2)⟩, ?_⟩
    walk_at "r"
    refine hjw p2 H2 _ (st_of (W2.old _ _ h2)) ?_
    walk_at "r"
    refine n_tupF W2 (sz rfl) fun p3 F3 H3 s3 h3 W3 => ?_
    walk_at "r"
    have s03 : Same F F3 := (s1.trans s2).trans s3
    have A3 := A.gr (Gr.of s03)
    have hat : atI [V.int 7, V.int 7, V.int 3] ((j : Nat) : Int) = some (.int (([7, 7, 3].getD j 0 : Nat) : Int)) := by
      rcases (show j = 0 ∨ j = 1 ∨ j = 2 by omega) with rfl | rfl | rfl <;> rfl
    refine l_ixT (st_of (W3.old _ _ h3)) hat ?_
    walk_at "r"
    refine wD (fun hle => ?_) (fun hle => ?_)
    · rw [if_pos (by omega)] at kk
      walk_at "r"
      obtain ⟨q, eq, hq⟩ := pen_view A3.pen
      refine n_slT' eq W3 hq fun r1 F4 H4 s4 h4 W4 => ?_
      walk_at "r"
      refine n_tupF W4 (sz rfl) fun r2 F5 H5 s5 h5 W5 => ?_
      refine n_addT W5 ((Gr.of s5).sqT h4) (st_of h5) ?_ fun r3 F6 H6 s6 h6 W6 => ?_
      · rcases (show j = 0 ∨ j = 1 ∨ j = 2 by omega) with rfl | rfl | rfl <;> exact sz rfl
      walk_at "r"
      have s36 : Same F3 F6 := (s4.trans s5).trans s6
      refine n_slT' eq W6 ((Gr.of s36).sqT hq) fun r4 F7 H7 s7 h7 W7 => ?_
      refine n_addT W7 ((Gr.of s7).sqT h6) h7 ?_ fun r5 F8 H8 s8 h8 W8 => ?_
      · rcases (show j = 0 ∨ j = 1 ∨ j = 2 by omega) with rfl | rfl | rfl <;> exact sz rfl
      walk_at "r"
      refine x_put0 W8 cl n6 fsScreen_len fsScreen_p9 fun H9 W9 => ?_
      walk_at "r"
      have s08 : Same F F8 := ((s03.trans s36).trans s7).trans s8
      have A8 := A.gr (Gr.of s08)
      have hp : Dp c.K F8 (.ref r5) (penData (penSet S.pen j n)) := by
        refine pen_mk ?_
        rcases (show j = 0 ∨ j = 1 ∨ j = 2 by omega) with rfl | rfl | rfl <;> exact h8
      exact kk { C with penv := .ref r5 } F8 H9 s08 ⟨⟨wf.w1, wf.w2, wf.h1, wf.h2, wf.m, wf.rl, wf.rw, wf.pl, wf.pw, wf.row, wf.column, wf.tb, wf.bh, wf.rd⟩, A8.rows, A8.past, A8.vals, A8.pr, A8.pp, A8.pin, hp, A8.pb⟩ W9
    · rw [if_neg (by omega)] at kk
      walk_at "r"
      exact kk C F3 H3 s03 A3 W3
  have h' : ¬ w = 67 ∧ ¬ w = 66 ∧ ¬ w = 77 := by simpa using h
  obtain ⟨m1, m2, m3⟩ := h'
  walk_at "r"
  refine n_tupF W1 (sz rfl) fun p2 F2 H2 s2 h2 W2 => ?_
  refine l_inC [88, 73] (st_of (W2.old _ _ h2)) ?_
  walk_at "r"
  have s02 : Same F F2 := s1.trans s2
  have A2 := A.gr (Gr.of s02)
  refine wD (fun h => ?_) (fun h => ?_)
  · have h' : w = 88 ∨ w = 73 := by simpa using h
    have e : S.one w n = S.shift w (min n (S.wide - S.column)) := by rcases h' with rfl | rfl <;> rfl
    rw [e] at kk
    walk_at "r"
    have hc := wf.column
    have e2 : min ((n : Nat) : Int) ((S.wide : Int) - (S.column : Int)) = ((min n (S.wide - S.column) : Nat) : Int) := by omega
    rw [e2]
    refine ⟨s, C, S, w, _, F2, L, rfl, Nat.min_le_right _ _, A2, W2, fun C3 F3 H3 s3 A3 W3 => ?_⟩
    walk_at "r"
    exact kk C3 F3 H3 (s02.trans s3) A3 W3
  have h' : ¬ (w = 88 ∨ w = 73) := by simpa using h
  have e0 : S.one w n = (if (w = 68 ∨ w = 78) ∧ S.top ≤ S.row ∧ S.row ≤ S.bottom then (let S1 := if w = 68 then S.takeRows n else S.rollDown S.row n; S1.stand S1.row 0)
      else if w = 74 then (match S.last with | some l => Scr.putMany l (min n (S.wide * S.high)) S | none => S) else S) := by
    unfold Scr.one
    rw [if_neg m1, if_neg m2, if_neg m3, if_neg h']
    all_goals rfl
  rw [e0] at kk
  walk_at "r"
  refine n_tupF W2 (sz rfl) fun p3 F3 H3 s3 h3 W3 => ?_
  refine l_inC [68, 78] (st_of (W3.old _ _ h3)) ?_
  walk_at "r"
  have s03 : Same F F3 := s02.trans s3
  have A3 := A.gr (Gr.of s03)
  refine if_and (b := decide (S.top ≤ S.row ∧ S.row ≤ S.bottom)) (fun Rb hR => ?_) ?_
  · walk_at "r"
    refine wD (fun h1 => ?_) (fun h1 => ?_)
    · walk_at "r"
      have e : decide ((S.row : Int) ≤ (S.bottom : Int)) = decide (S.top ≤ S.row ∧ S.row ≤ S.bottom) := by rw [Bool.eq_iff_iff, decide_eq_true_eq, decide_eq_true_eq]; omega
      rw [e]; exact hR
    · have e : decide (S.top ≤ S.row ∧ S.row ≤ S.bottom) = false := decide_eq_false (by omega)
      rw [e] at hR
      walk_at "r"
      exact hR
  rw [← Bool.decide_and]
  refine wD (fun h => ?_) (fun h => ?_)
  · have hw : w = 68 ∨ w = 78 := by simpa using h.1
    rw [if_pos ⟨hw, h.2⟩] at kk
    refine x_cut (fun σ' H' => ∃ C4 F4, σ' = [some (.ref s), some (.str (T [w])), some (.int (n : Nat)), none] ∧ Same F F4 ∧ ScrAt c F4 C4 (if w = 68 then S.takeRows n else S.rollDown S.row n) ∧ Hold F4 (scrL c s C4 (if w = 68 then S.takeRows n else S.rollDown S.row n) L) H') ?_ ?_
    · walk_at "r"
      refine wD (fun h4 => ?_) (fun h4 => ?_)
      · rw [if_pos (one1.mp h4)]
        walk_at "r"
        refine ⟨s, C, S, n, F3, L, rfl, h.2.2, A3, W3, fun C3 F4 H4 s4 A4 W4 => ?_⟩
        walk_at "r"
        exact ⟨C3, F4, rfl, s03.trans s4, A4, W4⟩
      · rw [if_neg (fun z => h4 (one1.mpr z))]
        walk_at "r"
        refine ⟨s, C, S, S.row, n, F3, L, rfl, h.2.2, A3, W3, fun C3 F4 H4 s4 A4 W4 => ?_⟩
        walk_at "r"
        exact ⟨C3, F4, rfl, s03.trans s4, A4, W4⟩
    · rintro σ' H4 ⟨C4, F4, rfl, s4, A4, W4⟩
      dsimp only at kk
      generalize (if w = 68 then S.takeRows n else S.rollDown S.row n) = S4 at A4 W4 kk
      walk_at "r"
      refine ⟨s, C4, S4, _, _, F4, L, rfl, A4, W4.st, fun C2 F8 H8 s8 A8 W9 => ?_⟩
      walk_at "r"
      exact kk C2 F8 H8 (s4.trans s8) A8 W9
  · have hw : ¬ ((w = 68 ∨ w = 78) ∧ S.top ≤ S.row ∧ S.row ≤ S.bottom) := fun z => h ⟨by simpa using z.1, z.2⟩
    rw [if_neg hw] at kk
    walk_at "r"
    refine if_and (b := S.last.isSome) (fun Rb hR => ?_) ?_
    · walk_at "r"
      have e : (!decide (lastV S.last = V.non)) = S.last.isSome := by cases S.last <;> rfl
      rw [e]; exact hR
    cases hl : S.last with
    | none =>
      rw [hl] at kk
      refine wF (by simp) ?_
      walk_at "r"
      refine kk C F3 H3 s03 ?_ ?_
      · split <;> exact A3
      · split <;> exact W3
    | some l =>
      rw [hl] at kk
      refine w2 (fun h5 => ?_) (fun h5 => ?_)
      · have hw : w = 74 := by simpa using h5
        rw [if_pos hw] at kk
        walk_at "r"
        refine g_mulNN (Nat.lt_of_le_of_lt wf.w2 (by decide)) (Nat.lt_of_le_of_lt wf.h2 (by decide)) ?_
        walk_at "r"
        have hwh : S.wide * S.high ≤ 60 * 40 := Nat.mul_le_mul wf.w2 wf.h2
        have e2 : min ((n : Nat) : Int) ((S.wide * S.high : Nat) : Int) = ((min n (S.wide * S.high) : Nat) : Int) := by omega
        rw [e2]
        have hle : min n (S.wide * S.high) ≤ 2400 := Nat.le_trans (Nat.min_le_right _ _) hwh
        generalize min n (S.wide * S.high) = m at hle kk
        refine x_irng1' (by omega) (by omega) ?_
        rw [Int.toNat_natCast]
        refine x_forOk (F := F3) ItOk.rng (fun i σ H' => ∃ s4 C4 F4, σ = [some (.ref s), some (.str (T [w])), some (.int (n : Nat)), s4] ∧ Same F3 F4 ∧ ScrAt c F4 C4 (Scr.putMany l i S) ∧ Hold F4 (scrL c s C4 (Scr.putMany l i S) L) H')
          (fun i σ H' _ ⟨_, _, F4, _, s4, _, W'⟩ => (Gr.of s4).trans W'.gr) ⟨none, C, F3, rfl, Same.refl F3, A3, W3⟩ ?_ ?_
        · rintro i σ H' hi ⟨s4, C4, F4, rfl, s5, A4, W4⟩
          have hlast := putMany_last hl i
          rw [putMany_succ]
          generalize Scr.putMany l i S = S4 at A4 W4 hlast
          walk_at "r"
          refine ⟨s, C4, S4, l, F4, L, by rw [hlast]; rfl, A4, W4, fun C5 F5 H5 s6 A5 W5 => ?_⟩
          walk_at "r"
          exact ⟨_, C5, F5, rfl, s5.trans s6, A5, W5⟩
        · rintro σ H' ⟨s4, C4, F4, rfl, s5, A4, W4⟩
          walk_at "r"
          exact kk C4 F4 H' (s03.trans s5) A4 W4
      · have hw : ¬ w = 74 := by simpa using h5
        rw [if_neg hw] at kk
        walk_at "r"
        exact kk C F3 H3 s03 A3 W3
end
end Ss
/-! ## Screens: great, do -/
namespace Ss
open PySem PySem.Spec PyProof.Rows L2
open Ss in
local macro_rules | `(tactic| walk_at "fg") => `(tactic| first | with_reducible exact fsScreen_g0 | with_reducible exact fsScreen_g1 | with_reducible exact fsScreen_g2 | with_reducible exact fsScreen_g3 | with_reducible exact fsScreen_g4 | with_reducible exact fsScreen_g5 | with_reducible exact fsScreen_g6 | with_reducible exact fsScreen_g7 | with_reducible exact fsScreen_g8 | with_reducible exact fsScreen_g9 | with_reducible exact fsScreen_g10 | with_reducible exact fsScreen_g11 | with_reducible exact fsScreen_g12 | with_reducible exact fsScreen_g13 | with_reducible exact fsRow_g0 | with_reducible exact fsRow_g1 | with_reducible exact fsReader_g0 | with_reducible exact fsReader_g1)
open Ss in
local macro_rules | `(tactic| walk_at "r") => `(tactic| repeat (first
  | with_reducible refine x_seq ?_ | with_reducible refine x_asg ?_ | with_reducible refine x_var rfl ?_ | with_reducible refine x_c ?_ | with_reducible refine x_op ?_ | with_reducible refine x_name ?_ | with_reducible refine x_gcons ?_ | with_reducible refine x_gnil ?_
  | with_reducible refine x_cons ?_ | with_reducible refine x_nil ?_ | with_reducible refine x_cb ?_ | with_reducible refine x_ifs ?_ | with_reducible refine x_test ?_ | with_reducible refine x_bl ?_
  | with_reducible refine g_addNN ?_ | with_reducible refine g_addNL ?_ | with_reducible refine g_addLN ?_ | with_reducible refine l_addI ?_ | with_reducible refine l_subI ?_ | with_reducible refine g_ltNL ?_ | with_reducible refine l_ltI ?_ | with_reducible refine l_leI ?_ | with_reducible refine l_gtI ?_ | with_reducible refine l_geI ?_ | with_reducible refine l_eqX ?_ | with_reducible refine l_neX ?_ | with_reducible refine g_eqNL ?_ | with_reducible refine l_eqII ?_ | with_reducible refine l_neII ?_ | with_reducible refine l_eq rfl ?_ | with_reducible refine l_ne rfl ?_
  | with_reducible refine x_fld ?_ | with_reducible refine x_ret ?_ | with_reducible refine x_drop ?_ | with_reducible refine x_next ?_ | with_reducible refine x_tup ?_ | with_reducible refine x_lst ?_ | with_reducible refine x_f ?_ | with_reducible refine x_o ?_ | with_reducible refine x_n ?_
  | with_reducible refine x_bm ?_ | with_reducible refine x_bm0 ?_ | with_reducible refine x_m1 ?_ | with_reducible refine x_m0 ?_ | with_reducible refine x_isstr ?_ | with_reducible refine x_tystr ?_ | with_reducible refine x_sl ?_ | with_reducible refine x_part ?_ | with_reducible refine x_part' ?_ | with_reducible refine x_nopart ?_
  | with_reducible refine x_sfld ?_ | with_reducible refine x_if ?_ | with_reducible refine x_isty ?_ | with_reducible refine x_chain ?_ | with_reducible refine x_andV ?_ | with_reducible refine x_orV ?_ | with_reducible refine x_notV ?_ | with_reducible refine x_B ?_ | with_reducible refine x_and ?_ | with_reducible refine x_or ?_ | with_reducible refine x_not ?_ | with_reducible refine x_tru ?_ | with_reducible refine x_yes ?_
  | with_reducible refine x_un ?_ | with_reducible refine x_neg ?_ | with_reducible refine x_par ?_ | with_reducible refine x_par' ?_ | with_reducible refine x_retN ?_ | with_reducible refine x_brk ?_ | with_reducible refine x_cont ?_ | with_reducible refine x_rz ?_
  | with_reducible refine l_leS ?_ | with_reducible refine l_ltS ?_ | with_reducible refine l_inX ?_ | with_reducible refine l_niX ?_ | with_reducible refine l_inS ?_ | with_reducible refine l_niS ?_ | with_reducible refine l_count ?_ | with_reducible refine l_ord ?_ | with_reducible refine l_max ?_ | with_reducible refine l_min ?_ | with_reducible refine l_intI ?_ | with_reducible refine l_intB ?_ | with_reducible refine l_is ?_ | with_reducible refine l_isn ?_
  | with_reducible refine g_modNL (by decide) ?_ | with_reducible refine g_divNL (by decide) (by decide) ?_ | with_reducible refine l_modI (by decide) ?_ | with_reducible refine x_for ?_ | with_reducible refine x_lc ?_ | with_reducible refine x_ilist ?_ | with_reducible refine x_itup ?_ | with_reducible refine x_istr ?_ | with_reducible refine x_istr' ?_ | with_reducible refine x_irng1 ?_ | with_reducible refine x_irng2 ?_
  | (with_reducible refine x_get (by first | assumption | exact Hold.get0 (by assumption) | exact Hold.get1 (by assumption)) (by assumption) (by assumption) (by walk_at "fg") ?_)
  | (with_reducible refine x_ao (by first | assumption | exact Hold.get0 (by assumption) | exact Hold.get1 (by assumption)) (by kernel_rfl) ?_)
  | with_reducible refine x_ienum ?_ | with_reducible refine x_izip ?_ | with_reducible refine x_chain3 ?_
  | (with_reducible refine x_par2 ?_)
  | (with_reducible refine x_par3 ?_) | (with_reducible refine x_par3' ?_)))
def t_Screen_great (c : Ctx) (E : XK) : TS :=
  (tIfS (tAnd (tTest (tOp (uEq c.K) (tVar 1) (tC (.str ⟨#[71]⟩)))) (tTest (tOp (uEq c.K) (tCB (uLen c.K) (tCons (tVar 2) tNil)) (tC (.int 2))))) (tDrop (tO c.cScreen "stand" (sp_Screen_stand c) E0 (tVar 0) (tCons (tOp (uIx c.K) (tVar 2) (tC (.int 0))) (tCons (tOp (uIx c.K) (tVar 2) (tC (.int 1))) tNil)))) (tIfS (tAnd (tTest (tOp (uEq c.K) (tVar 1) (tC (.str ⟨#[82]⟩)))) (tTest (tOp (uEq c.K) (tCB (uLen c.K) (tCons (tVar 2) tNil)) (tC (.int 2))))) (tIfS (tTest (tChain uLt uLt (tOp (uIx c.K) (tVar 2) (tC (.int 0))) (tOp (uIx c.K) (tVar 2) (tC (.int 1))) (tFld c.K (tVar 0) "high"))) (tSeq (tAsg (tVar 2) (gTup c.K 2 (gCons (gAttr c.K (tVar 0) "top") (gCons (gAttr c.K (tVar 0) "bottom") gNil))))
  (tDrop (tO c.cScreen "stand" (sp_Screen_stand c) E0 (tVar 0) (tCons (tC (.int 0)) (tCons (tC (.int 0)) tNil))))) tNext) (tIfS (tTest (tOp (uEq c.K) (tCB (uLen c.K) (tCons (tVar 2) tNil)) (tC (.int 1)))) (tDrop (tO c.cScreen "one" (sp_Screen_one c) E0 (tVar 0) (tCons (tVar 1) (tCons (tOp (uIx c.K) (tVar 2) (tC (.int 0))) tNil)))) tNext)))
abbrev N_Screen_great : List Str := ["self", "word", "numbers"]

def t_Screen_do (c : Ctx) (E : XK) : TS :=
  (tIfS (tTest (tOp (uEq c.K) (tOp (uIx c.K) (tVar 1) (tC (.int 0))) (tC (.str ⟨#[115, 105, 103, 110]⟩)))) (tDrop (tO c.cScreen "put" (sp_Screen_put c) E0 (tVar 0) (tCons (tOp (uIx c.K) (tVar 1) (tC (.int 1))) tNil))) (tIfS (tTest (tOp (uEq c.K) (tOp (uIx c.K) (tVar 1) (tC (.int 0))) (tC (.str ⟨#[101, 110, 100]⟩)))) (tSeq (tDrop (tO c.cScreen "down" (sp_Screen_down c) E0 (tVar 0) tNil))
  (tDrop (tO c.cScreen "stand" (sp_Screen_stand c) E0 (tVar 0) (tCons (tFld c.K (tVar 0) "row") (tCons (tC (.int 0)) tNil))))) (tIfS (tTest (tOp (uIn c.K) (tOp (uIx c.K) (tVar 1) (tC (.int 1))) (tC (v_SMALL c)))) (tDrop (tO c.cScreen "small" (sp_Screen_small c) E0 (tVar 0) (tCons (tOp (uIx c.K) (tVar 1) (tC (.int 1))) tNil))) (tDrop (tO c.cScreen "great" (sp_Screen_great c) E0 (tVar 0) (tCons (tOp (uIx c.K) (tVar 1) (tC (.int 1))) (tCons (tOp (uIx c.K) (tVar 1) (tC (.int 2))) tNil)))))))
abbrev N_Screen_do : List Str := ["self", "one"]

section
variable {c : Ctx}
theorem great_no {S : Scr} {w : Nat} {ns : List Nat} (h1 : ¬ ns.length = 1) (h2 : ¬ ns.length = 2) : S.great w ns = S := by
  unfold Scr.great
  match ns, h1, h2 with
  | [], _, _ => rfl
  | [_], h, _ => exact absurd rfl h
  | [_, _], _, h => exact absurd rfl h
  | _ :: _ :: _ :: _, _, _ => rfl
theorem rd_Screen_great (R : FScreen c) : RD N_Screen_great (t_Screen_great c) (sp_Screen_great c) := by
  have cl := R.cl
  have n1 := R.n_bottom
  have n3 := R.n_top
  have n4 := R.n_high
  rintro vs H Q E ⟨s, C, S, w, ns, q, F, L, rfl, hq, A, W, kk⟩
  have wf := A.wf
  have hs := W.gr.sqT hq
  unfold t_Screen_great
  walk_at "r"
  have len2 : ∀ Rb : Bool → Hp → Prop, ∀ k : Nat, Rb (decide (ns.length = k)) H → Rb (decide ((ns.map fun (n : Nat) => V.int n).length = k)) H := fun Rb k h => by rw [List.length_map]; exact h
  refine if_and (b := decide (ns.length = 2)) (fun Rb hR => ?_) ?_
  · walk_at "r"
    refine l_lenT hs ?_
    walk_at "r"
    exact len2 Rb 2 hR
  rw [← Bool.decide_and]
  refine wD (fun h => ?_) (fun h => ?_)
  · obtain ⟨h1, h2⟩ := h
    have hw : w = 71 := one1.mp h1
    subst hw
    match ns, h2 with
    | [a, b], _ =>
      walk_at "r"
      refine l_ixT hs rfl ?_
      walk_at "r"
      refine l_ixT hs rfl ?_
      walk_at "r"
      refine ⟨s, C, S, _, _, F, L, rfl, A, W.st, fun C2 F2 H2 s2 A2 W2 => ?_⟩
      walk_at "r"
      exact kk C2 F2 H2 s2 A2 W2
  walk_at "r"
  refine if_and (b := decide (ns.length = 2)) (fun Rb hR => ?_) ?_
  · walk_at "r"
    refine l_lenT hs ?_
    walk_at "r"
    exact len2 Rb 2 hR
  rw [← Bool.decide_and]
  refine wD (fun h5 => ?_) (fun h5 => ?_)
  · obtain ⟨h1, h2⟩ := h5
    have hw : w = 82 := one1.mp h1
    subst hw
    match ns, h2 with
    | [a, b], _ =>
      have e : S.great 82 [a, b] = if a < b ∧ b < S.high then ({ S with top := a, bottom := b } : Scr).stand 0 0 else S := rfl
      rw [e] at kk
      walk_at "r"
      refine l_ixT hs rfl ?_
      walk_at "r"
      refine l_ixT hs rfl ?_
      walk_at "r"
      refine wD (fun h6 => ?_) (fun h6 => ?_)
      · walk_at "r"
        refine wD (fun h7 => ?_) (fun h7 => ?_)
        · have hab : a < b := Int.ofNat_lt.mp h6
          have hbh : b < S.high := Int.ofNat_lt.mp h7
          rw [if_pos ⟨hab, hbh⟩] at kk
          walk_at "r"
          refine x_gtup (xs := [V.int ((a : Nat) : Int), V.int ((b : Nat) : Int)]) hs rfl ?_
          walk_at "r"
          refine x_gattr ?_
          walk_at "r"
          refine x_put0 W cl n3 fsScreen_len fsScreen_p10 fun H1 W1 => ?_
          walk_at "r"
          refine x_gattr ?_
          walk_at "r"
          refine x_put0 W1 cl n1 fsScreen_len fsScreen_p11 fun H2 W2 => ?_
          walk_at "r"
          have A2 : ScrAt c F C { S with top := a, bottom := b } := ⟨⟨wf.w1, wf.w2, wf.h1, wf.h2, wf.m, wf.rl, wf.rw, wf.pl, wf.pw, wf.row, wf.column, Nat.le_of_lt hab, hbh, wf.rd⟩, A.rows, A.past, A.vals, A.pr, A.pp, A.pin, A.pen, A.pb⟩
          refine ⟨s, C, { S with top := a, bottom := b }, 0, 0, F, L, rfl, A2, W2.st, fun C2 F2 H3 s2 A3 W3 => ?_⟩
          walk_at "r"
          exact kk C2 F2 H3 s2 A3 W3
        · rw [if_neg (fun z => h7 (Int.ofNat_lt.mpr z.2))] at kk
          walk_at "r"
          exact kk C F H (Same.refl F) A W
      · rw [if_neg (fun z => h6 (Int.ofNat_lt.mpr z.1))] at kk
        walk_at "r"
        refine wF rfl ?_
        walk_at "r"
        exact kk C F H (Same.refl F) A W
  walk_at "r"
  refine l_lenT hs ?_
  walk_at "r"
  rw [List.length_map]
  refine wD (fun h7 => ?_) (fun h7 => ?_)
  · match ns, h7 with
    | [a], _ =>
      have e : S.great w [a] = S.one w a := rfl
      rw [e] at kk
      walk_at "r"
      refine l_ixT hs rfl ?_
      walk_at "r"
      refine ⟨s, C, S, w, a, F, L, rfl, A, W, fun C2 F2 H2 s2 A2 W2 => ?_⟩
      walk_at "r"
      exact kk C2 F2 H2 s2 A2 W2
  · have e : S.great w ns = S := by
      by_cases h2 : ns.length = 2
      · match ns, h2 with
        | [a, b], _ =>
          have x1 : ¬ w = 71 := fun z => h ⟨one1.mpr z, rfl⟩
          have x2 : ¬ w = 82 := fun z => h5 ⟨one1.mpr z, rfl⟩
          show (if w = 71 then _ else if w = 82 then _ else S) = S
          rw [if_neg x1, if_neg x2]
      · exact great_no h7 h2
    rw [e] at kk
    walk_at "r"
    exact kk C F H (Same.refl F) A W
theorem rd_Screen_do (R : FScreen c) : RD N_Screen_do (t_Screen_do c) (sp_Screen_do c) := by
  rintro vs H Q E ⟨s, C, S, t, b, F, L, rfl, hd, A, W, kk⟩
  obtain ⟨b', hb, hv⟩ := tk_view hd
  have cl := R.cl
  have n2 := R.n_row
  cases hb
  unfold t_Screen_do
  walk_at "r"
  cases t with
  | sign n =>
    refine l_ixT (W.gr.sqT hv) rfl ?_
    walk_at "r"
    refine wT (decide_eq_true rfl) ?_
    walk_at "r"
    refine l_ixT (W.gr.sqT hv) rfl ?_
    walk_at "r"
    refine ⟨s, C, S, n, F, L, rfl, A, W, fun C2 F2 H2 s2 A2 W2 => ?_⟩
    walk_at "r"
    exact kk C2 F2 H2 s2 A2 W2
  | fin =>
    refine l_ixT (W.gr.sqT hv) rfl ?_
    walk_at "r"
    refine wF (decide_eq_false (by decide)) ?_
    walk_at "r"
    refine l_ixT (W.gr.sqT hv) rfl ?_
    walk_at "r"
    refine wT (decide_eq_true rfl) ?_
    walk_at "r"
    refine ⟨s, C, S, F, L, rfl, A, W, fun C2 F2 H2 s2 A2 W2 => ?_⟩
    walk_at "r"
    refine ⟨s, C2, S.down, _, 0, F2, L, rfl, A2, W2.st, fun C3 F3 H3 s3 A3 W3 => ?_⟩
    walk_at "r"
    exact kk C3 F3 H3 (s2.trans s3) A3 W3
  | act w ns =>
    obtain ⟨q, h1, h2⟩ := hv
    refine l_ixT (W.gr.sqT h1) rfl ?_
    walk_at "r"
    refine wF (decide_eq_false (by decide)) ?_
    walk_at "r"
    refine l_ixT (W.gr.sqT h1) rfl ?_
    walk_at "r"
    refine wF (decide_eq_false (by decide)) ?_
    walk_at "r"
    refine l_ixT (W.gr.sqT h1) rfl ?_
    walk_at "r"
    rw [isSmall_mem']
    refine w2 (fun hsm => ?_) (fun hsm => ?_)
    · have e : S.act (.act w ns) = S.small w := by show (if isSmall w then S.small w else S.great w ns) = _; rw [if_pos hsm]
      rw [e] at kk
      walk_at "r"
      refine l_ixT (W.gr.sqT h1) rfl ?_
      walk_at "r"
      refine ⟨s, C, S, w, F, L, rfl, A, W, fun C2 F2 H2 s2 A2 W2 => ?_⟩
      walk_at "r"
      exact kk C2 F2 H2 s2 A2 W2
    · have e : S.act (.act w ns) = S.great w ns := by show (if isSmall w then S.small w else S.great w ns) = _; rw [if_neg (by rw [hsm]; decide)]
      rw [e] at kk
      walk_at "r"
      refine l_ixT (W.gr.sqT h1) rfl ?_
      walk_at "r"
      refine l_ixT (W.gr.sqT h1) rfl ?_
      walk_at "r"
      refine ⟨s, C, S, w, ns, q, F, L, rfl, h2, A, W, fun C2 F2 H2 s2 A2 W2 => ?_⟩
      walk_at "r"
      exact kk C2 F2 H2 s2 A2 W2
end
end Ss
/-! ## Screens: feed -/
namespace Ss
open PySem PySem.Spec PyProof.Rows L2
open Ss in
local macro_rules | `(tactic| walk_at "fg") => `(tactic| first | with_reducible exact fsScreen_g0 | with_reducible exact fsScreen_g1 | with_reducible exact fsScreen_g2 | with_reducible exact fsScreen_g3 | with_reducible exact fsScreen_g4 | with_reducible exact fsScreen_g5 | with_reducible exact fsScreen_g6 | with_reducible exact fsScreen_g7 | with_reducible exact fsScreen_g8 | with_reducible exact fsScreen_g9 | with_reducible exact fsScreen_g10 | with_reducible exact fsScreen_g11 | with_reducible exact fsScreen_g12 | with_reducible exact fsScreen_g13 | with_reducible exact fsRow_g0 | with_reducible exact fsRow_g1 | with_reducible exact fsReader_g0 | with_reducible exact fsReader_g1)
open Ss in
local macro_rules | `(tactic| walk_at "r") => `(tactic| repeat (first
  | with_reducible refine x_seq ?_ | with_reducible refine x_asg ?_ | with_reducible refine x_var rfl ?_ | with_reducible refine x_c ?_ | with_reducible refine x_op ?_ | with_reducible refine x_name ?_ | with_reducible refine x_gcons ?_ | with_reducible refine x_gnil ?_
  | with_reducible refine x_cons ?_ | with_reducible refine x_nil ?_ | with_reducible refine x_cb ?_ | with_reducible refine x_ifs ?_ | with_reducible refine x_test ?_ | with_reducible refine x_bl ?_
  | with_reducible refine g_addNN ?_ | with_reducible refine g_addNL ?_ | with_reducible refine g_addLN ?_ | with_reducible refine l_addI ?_ | with_reducible refine l_subI ?_ | with_reducible refine g_ltNL ?_ | with_reducible refine l_ltI ?_ | with_reducible refine l_leI ?_ | with_reducible refine l_gtI ?_ | with_reducible refine l_geI ?_ | with_reducible refine l_eqX ?_ | with_reducible refine l_neX ?_ | with_reducible refine g_eqNL ?_ | with_reducible refine l_eqII ?_ | with_reducible refine l_neII ?_ | with_reducible refine l_eq rfl ?_ | with_reducible refine l_ne rfl ?_
  | with_reducible refine x_fld ?_ | with_reducible refine x_ret ?_ | with_reducible refine x_drop ?_ | with_reducible refine x_next ?_ | with_reducible refine x_tup ?_ | with_reducible refine x_lst ?_ | with_reducible refine x_f ?_ | with_reducible refine x_o ?_ | with_reducible refine x_n ?_
  | with_reducible refine x_bm ?_ | with_reducible refine x_bm0 ?_ | with_reducible refine x_m1 ?_ | with_reducible refine x_m0 ?_ | with_reducible refine x_isstr ?_ | with_reducible refine x_tystr ?_ | with_reducible refine x_sl ?_ | with_reducible refine x_part ?_ | with_reducible refine x_part' ?_ | with_reducible refine x_nopart ?_
  | with_reducible refine x_sfld ?_ | with_reducible refine x_if ?_ | with_reducible refine x_isty ?_ | with_reducible refine x_chain ?_ | with_reducible refine x_andV ?_ | with_reducible refine x_orV ?_ | with_reducible refine x_notV ?_ | with_reducible refine x_B ?_ | with_reducible refine x_and ?_ | with_reducible refine x_or ?_ | with_reducible refine x_not ?_ | with_reducible refine x_tru ?_ | with_reducible refine x_yes ?_
  | with_reducible refine x_un ?_ | with_reducible refine x_neg ?_ | with_reducible refine x_par ?_ | with_reducible refine x_par' ?_ | with_reducible refine x_retN ?_ | with_reducible refine x_brk ?_ | with_reducible refine x_cont ?_ | with_reducible refine x_rz ?_
  | with_reducible refine l_leS ?_ | with_reducible refine l_ltS ?_ | with_reducible refine l_inX ?_ | with_reducible refine l_niX ?_ | with_reducible refine l_inS ?_ | with_reducible refine l_niS ?_ | with_reducible refine l_count ?_ | with_reducible refine l_ord ?_ | with_reducible refine l_max ?_ | with_reducible refine l_min ?_ | with_reducible refine l_intI ?_ | with_reducible refine l_intB ?_ | with_reducible refine l_is ?_ | with_reducible refine l_isn ?_
  | with_reducible refine g_modNL (by decide) ?_ | with_reducible refine g_divNL (by decide) (by decide) ?_ | with_reducible refine l_modI (by decide) ?_ | with_reducible refine x_for ?_ | with_reducible refine x_lc ?_ | with_reducible refine x_ilist ?_ | with_reducible refine x_itup ?_ | with_reducible refine x_istr ?_ | with_reducible refine x_istr' ?_ | with_reducible refine x_irng1 ?_ | with_reducible refine x_irng2 ?_
  | (with_reducible refine x_get (by first | assumption | exact Hold.get0 (by assumption) | exact Hold.get1 (by assumption)) (by assumption) (by assumption) (by walk_at "fg") ?_)
  | (with_reducible refine x_ao (by first | assumption | exact Hold.get0 (by assumption) | exact Hold.get1 (by assumption)) (by kernel_rfl) ?_)
  | with_reducible refine x_ienum ?_ | with_reducible refine x_izip ?_ | with_reducible refine x_chain3 ?_
  | (with_reducible refine x_par2 ?_)
  | (with_reducible refine x_par3 ?_) | (with_reducible refine x_par3' ?_)))
def sp_Screen_feed (c : Ctx) : Sp := fun vs H Q E => ∃ (s : Addr) (C : ScrC) (S : Scr) (x : V) (F : Hp) (L : List (Addr × HO)), vs = [.ref s, x] ∧ TextArg c F x ∧ ScrAt c F C S ∧ Hold F (scrL c s C S L) H ∧
  (∀ l, x = .str (T l) → okText x = true → ScrTo c s F L (S.fed l) Q) ∧ (okText x = false → ∀ F' H', Same F F' → Hold F' (scrL c s C S L) H' → E (.ref c.cBadText) none H')
def t_Screen_feed (c : Ctx) (E : XK) : TS :=
  (tFor (iList c.K (tO c.cReader "feed" (sp_Reader_feed c) E (tFld c.K (tVar 0) "reader") (tCons (tVar 1) tNil))) (gName 2) (tDrop (tO c.cScreen "do" (sp_Screen_do c) E0 (tVar 0) (tCons (tVar 2) tNil))))
abbrev N_Screen_feed : List Str := ["self", "text", "one"]

section
variable {c : Ctx}
theorem acts_snoc (S : Scr) (ts : List Tk) (t : Tk) : S.acts (ts ++ [t]) = (S.acts ts).act t := by
  unfold Scr.acts
  rw [List.foldl_append]; rfl
theorem rd_Screen_feed (R : FScreen c) (RD' : FReader c) : RD N_Screen_feed (t_Screen_feed c) (sp_Screen_feed c) := by
  have cl := R.cl
  have n1 := R.n_reader
  rintro vs H Q E ⟨s, C, S, x, F, L, rfl, ta, A, W, k1, k2⟩
  have wf := A.wf
  unfold t_Screen_feed
  walk_at "r"
  have sw : ∀ {F H} {a b : Addr × HO} {M : List (Addr × HO)}, Hold F (a :: b :: M) H → Hold F (b :: a :: M) H := fun W => W.perm (List.Perm.swap _ _ _)
  refine ⟨C.r, C.rdx, S.rd, x, F, (s, scrO c C S) :: (ownR c C.rows ++ L), rfl, ta, sw W, wf.rd, fun l hl hok p xs F1 H1 s1 hxs W1 => ?_, fun hno F1 H1 s1 W1 => k2 hno F1 H1 s1 (sw W1)⟩
  have k1' := k1 l hl hok
  unfold Scr.fed at k1'
  have A0 : ScrAt c F C { S with rd := (S.rd.feed l).1 } := ⟨⟨wf.w1, wf.w2, wf.h1, wf.h2, wf.m, wf.rl, wf.rw, wf.pl, wf.pw, wf.row, wf.column, wf.tb, wf.bh, feed_wf wf.rd⟩, A.rows, A.past, A.vals, A.pr, A.pp, A.pin, A.pen, A.pb⟩
  have W2 := W1.freeze
  have s2 := W1.freezeS
  have hp : (upd F1 p (.lst xs)) p = some (.lst xs) := upd_same
  have hxs2 := (Gr.of s2).dpAll hxs
  generalize upd F1 p (.lst xs) = F2 at W2 s2 hp hxs2
  have s02 : Same F F2 := s1.trans s2
  have W3 : Hold F2 (scrL c s C { S with rd := (S.rd.feed l).1 } L) H1 := sw W2
  generalize ({ S with rd := (S.rd.feed l).1 } : Scr) = S0 at A0 W3 k1'
  have hln := dpAll_len hxs
  rw [List.length_map] at hln
  generalize (S.rd.feed l).2 = ts at hxs hxs2 hln k1'
  refine x_ilist' (sq_of (W3.old _ _ hp)) ?_
  refine x_forOk (F := F2) (ItOk.list (sq_of hp)) (fun i σ H' => ∃ s3 C3 F3, σ = [some (.ref s), some x, s3] ∧ Same F2 F3 ∧ ScrAt c F3 C3 (S0.acts (ts.take i)) ∧ Hold F3 (scrL c s C3 (S0.acts (ts.take i)) L) H')
    (fun i σ H' _ ⟨_, _, F3, _, s3, _, W'⟩ => (Gr.of s3).trans W'.gr) ⟨none, C, F2, rfl, Same.refl F2, A0.gr (Gr.of s02), W3⟩ ?_ ?_
  · rintro i σ H' hi ⟨s3, C3, F3, rfl, s4, A4, W4⟩
    have hi' : i < ts.length := by omega
    have hv := dpAll_get hxs2 i (by simpa using hi')
    rw [getD_map (d := Tk.fin) hi'] at hv
    obtain ⟨b, hb, _⟩ := tk_view hv
    rw [hb] at hv ⊢
    have ea := acts_snoc S0 (ts.take i) (ts.getD i .fin)
    rw [← take_getD hi'] at ea
    rw [ea]
    generalize S0.acts (ts.take i) = S4 at A4 W4
    walk_at "r"
    refine ⟨s, C3, S4, ts.getD i .fin, b, F3, L, rfl, (Gr.of s4).dp hv, A4, W4, fun C5 F5 H5 s6 A5 W5 => ?_⟩
    walk_at "r"
    exact ⟨_, C5, F5, rfl, s4.trans s6, A5, W5⟩
  · rintro σ H' ⟨s3, C3, F3, rfl, s4, A4, W4⟩
    rw [hln, List.take_length] at A4 W4
    walk_at "r"
    exact k1' C3 F3 H' (s02.trans s4) A4 W4
end
end Ss
/-! ## Screens: what they tell -/
namespace Ss
open PySem PySem.Spec PyProof.Rows L2
open Ss in
local macro_rules | `(tactic| walk_at "fg") => `(tactic| first | with_reducible exact fsScreen_g0 | with_reducible exact fsScreen_g1 | with_reducible exact fsScreen_g2 | with_reducible exact fsScreen_g3 | with_reducible exact fsScreen_g4 | with_reducible exact fsScreen_g5 | with_reducible exact fsScreen_g6 | with_reducible exact fsScreen_g7 | with_reducible exact fsScreen_g8 | with_reducible exact fsScreen_g9 | with_reducible exact fsScreen_g10 | with_reducible exact fsScreen_g11 | with_reducible exact fsScreen_g12 | with_reducible exact fsScreen_g13 | with_reducible exact fsRow_g0 | with_reducible exact fsRow_g1 | with_reducible exact fsReader_g0 | with_reducible exact fsReader_g1)
open Ss in
local macro_rules | `(tactic| walk_at "r") => `(tactic| repeat (first
  | with_reducible refine x_seq ?_ | with_reducible refine x_asg ?_ | with_reducible refine x_var rfl ?_ | with_reducible refine x_c ?_ | with_reducible refine x_op ?_ | with_reducible refine x_name ?_ | with_reducible refine x_gcons ?_ | with_reducible refine x_gnil ?_
  | with_reducible refine x_cons ?_ | with_reducible refine x_nil ?_ | with_reducible refine x_cb ?_ | with_reducible refine x_ifs ?_ | with_reducible refine x_test ?_ | with_reducible refine x_bl ?_
  | with_reducible refine g_addNN ?_ | with_reducible refine g_addNL ?_ | with_reducible refine g_addLN ?_ | with_reducible refine l_addI ?_ | with_reducible refine l_subI ?_ | with_reducible refine g_ltNL ?_ | with_reducible refine l_ltI ?_ | with_reducible refine l_leI ?_ | with_reducible refine l_gtI ?_ | with_reducible refine l_geI ?_ | with_reducible refine l_eqX ?_ | with_reducible refine l_neX ?_ | with_reducible refine g_eqNL ?_ | with_reducible refine l_eqII ?_ | with_reducible refine l_neII ?_ | with_reducible refine l_eq rfl ?_ | with_reducible refine l_ne rfl ?_
  | with_reducible refine x_fld ?_ | with_reducible refine x_ret ?_ | with_reducible refine x_drop ?_ | with_reducible refine x_next ?_ | with_reducible refine x_tup ?_ | with_reducible refine x_lst ?_ | with_reducible refine x_f ?_ | with_reducible refine x_o ?_ | with_reducible refine x_n ?_
  | with_reducible refine x_bm ?_ | with_reducible refine x_bm0 ?_ | with_reducible refine x_m1 ?_ | with_reducible refine x_m0 ?_ | with_reducible refine x_isstr ?_ | with_reducible refine x_tystr ?_ | with_reducible refine x_sl ?_ | with_reducible refine x_part ?_ | with_reducible refine x_part' ?_ | with_reducible refine x_nopart ?_
  | with_reducible refine x_sfld ?_ | with_reducible refine x_if ?_ | with_reducible refine x_isty ?_ | with_reducible refine x_chain ?_ | with_reducible refine x_andV ?_ | with_reducible refine x_orV ?_ | with_reducible refine x_notV ?_ | with_reducible refine x_B ?_ | with_reducible refine x_and ?_ | with_reducible refine x_or ?_ | with_reducible refine x_not ?_ | with_reducible refine x_tru ?_ | with_reducible refine x_yes ?_
  | with_reducible refine x_un ?_ | with_reducible refine x_neg ?_ | with_reducible refine x_par ?_ | with_reducible refine x_par' ?_ | with_reducible refine x_retN ?_ | with_reducible refine x_brk ?_ | with_reducible refine x_cont ?_ | with_reducible refine x_rz ?_
  | with_reducible refine l_leS ?_ | with_reducible refine l_ltS ?_ | with_reducible refine l_inX ?_ | with_reducible refine l_niX ?_ | with_reducible refine l_inS ?_ | with_reducible refine l_niS ?_ | with_reducible refine l_count ?_ | with_reducible refine l_ord ?_ | with_reducible refine l_max ?_ | with_reducible refine l_min ?_ | with_reducible refine l_intI ?_ | with_reducible refine l_intB ?_ | with_reducible refine l_is ?_ | with_reducible refine l_isn ?_
  | with_reducible refine g_modNL (by decide) ?_ | with_reducible refine g_divNL (by decide) (by decide) ?_ | with_reducible refine l_modI (by decide) ?_ | with_reducible refine x_for ?_ | with_reducible refine x_lc ?_ | with_reducible refine x_ilist ?_ | with_reducible refine x_itup ?_ | with_reducible refine x_istr ?_ | with_reducible refine x_istr' ?_ | with_reducible refine x_irng1 ?_ | with_reducible refine x_irng2 ?_
  | (with_reducible refine x_get (by first | assumption | exact Hold.get0 (by assumption) | exact Hold.get1 (by assumption)) (by assumption) (by assumption) (by walk_at "fg") ?_)
  | (with_reducible refine x_ao (by first | assumption | exact Hold.get0 (by assumption) | exact Hold.get1 (by assumption)) (by kernel_rfl) ?_)
  | with_reducible refine x_ienum ?_ | with_reducible refine x_izip ?_ | with_reducible refine x_chain3 ?_
  | (with_reducible refine x_par2 ?_)
  | (with_reducible refine x_par3 ?_) | (with_reducible refine x_par3' ?_)))
namespace Scr
def cursorD (S : Scr) : PyData := .tuple [.int (S.row : Nat), .int (S.column : Nat), .bool S.full]
def stateD (S : Scr) : PyData := .tuple [penData S.pen, .tuple [.int (S.top : Nat), .int (S.bottom : Nat)]]
def pageD (S : Scr) : PyData := .list (S.rows.map fun p => .list (p.cells.map Cell.data))
end Scr
abbrev ScrTell (c : Ctx) (s : Addr) (C : ScrC) (S : Scr) (F : Hp) (L : List (Addr × HO)) (d : PyData) (Q : VK) : Prop := ∀ v F' H', Same F F' → Dp c.K F' v d → Hold F' (scrL c s C S L) H' → Q v H'
def sp_Screen_cursor (c : Ctx) : Sp := fun vs H Q _ => ∃ (s : Addr) (C : ScrC) (S : Scr) (F : Hp) (L : List (Addr × HO)), vs = [.ref s] ∧ ScrAt c F C S ∧ Hold F (scrL c s C S L) H ∧ ScrTell c s C S F L S.cursorD Q
def sp_Screen_state (c : Ctx) : Sp := fun vs H Q _ => ∃ (s : Addr) (C : ScrC) (S : Scr) (F : Hp) (L : List (Addr × HO)), vs = [.ref s] ∧ ScrAt c F C S ∧ Hold F (scrL c s C S L) H ∧ ScrTell c s C S F L S.stateD Q
/-- a list is handed back as one's own -/
abbrev ScrOwn (c : Ctx) (s : Addr) (C : ScrC) (S : Scr) (F : Hp) (L : List (Addr × HO)) (P : Hp → List V → Prop) (Q : VK) : Prop := ∀ (D : Addr) ys F' H', Same F F' → P F' ys → Hold F' ((D, .lst ys) :: scrL c s C S L) H' → Q (.ref D) H'
/-- the i-th of ys is a new list of the i-th row's cells -/
def PageAt (c : Ctx) (F F' : Hp) (ys : List V) (rows : List PRow) : Prop := ys.length = rows.length ∧ ∀ i, i < rows.length → ∃ (r : Addr) (vals : List V), ys.getD i .non = .ref r ∧ F r = none ∧ F' r = some (.lst vals) ∧ DpAll c.K F' vals ((rows.getD i ⟨[], false⟩).cells.map Cell.data)
def sp_Screen_page (c : Ctx) : Sp := fun vs H Q _ => ∃ (s : Addr) (C : ScrC) (S : Scr) (F : Hp) (L : List (Addr × HO)), vs = [.ref s] ∧ ScrAt c F C S ∧ Hold F (scrL c s C S L) H ∧ ScrOwn c s C S F L (fun F' ys => PageAt c F F' ys S.rows) Q
theorem PageAt.gr {c : Ctx} {F F1 F2 : Hp} {ys : List V} {rows : List PRow} (g : Gr F1 F2) (h : PageAt c F F1 ys rows) : PageAt c F F2 ys rows :=
  ⟨h.1, fun i hi => let ⟨r, vals, a, b, d, e⟩ := h.2 i hi; ⟨r, vals, a, b, g.lst d, g.dpAll e⟩⟩
theorem PageAt.dpAll {c : Ctx} {F F' : Hp} {ys : List V} {rows : List PRow} (h : PageAt c F F' ys rows) : DpAll c.K F' ys (rows.map fun p => .list (p.cells.map Cell.data)) :=
  dpAll_of (by rw [List.length_map]; exact h.1) fun i hi => by
    have hi' : i < rows.length := by simpa using hi
    obtain ⟨r, vals, a, _, d, e⟩ := h.2 i hi'
    rw [getD_map (d := (⟨[], false⟩ : PRow)) hi', a]
    exact .lst (sq_of d) e
def t_Screen_cursor (c : Ctx) (E : XK) : TS :=
  (tRet (tTup (tCons (tFld c.K (tVar 0) "row") (tCons (tFld c.K (tVar 0) "column") (tCons (tFld c.K (tVar 0) "is_full") tNil)))))
abbrev N_Screen_cursor : List Str := ["self"]

def t_Screen_state (c : Ctx) (E : XK) : TS :=
  (tRet (tTup (tCons (tFld c.K (tVar 0) "pen") (tCons (tTup (tCons (tFld c.K (tVar 0) "top") (tCons (tFld c.K (tVar 0) "bottom") tNil))) tNil))))
abbrev N_Screen_state : List Str := ["self"]

def t_Screen_page (c : Ctx) (E : XK) : TS :=
  (tRet (tLc (iList c.K (tFld c.K (tVar 0) "rows")) (gName 1) tYes (tCB (uList c.K) (tCons (tFld c.K (tVar 1) "cells") tNil)) [1]))
abbrev N_Screen_page : List Str := ["self", "row"]

section
variable {c : Ctx}
theorem rd_Screen_cursor (R : FScreen c) : RD N_Screen_cursor (t_Screen_cursor c) (sp_Screen_cursor c) := by
  have cl := R.cl
  have n1 := R.n_row
  have n2 := R.n_column
  have n3 := R.n_is_full
  rintro vs H Q E ⟨s, C, S, F, L, rfl, A, W, kk⟩
  unfold t_Screen_cursor
  walk_at "r"
  refine n_tupF W (sz rfl) fun p F' H' s1 h1 W1 => ?_
  exact kk _ F' H' s1 (.tup (st_of h1) (.cons (.int _) (.cons (.int _) (.cons (.bl _) .nil)))) W1
theorem rd_Screen_state (R : FScreen c) : RD N_Screen_state (t_Screen_state c) (sp_Screen_state c) := by
  have cl := R.cl
  have n1 := R.n_pen
  have n2 := R.n_top
  have n3 := R.n_bottom
  rintro vs H Q E ⟨s, C, S, F, L, rfl, A, W, kk⟩
  unfold t_Screen_state
  walk_at "r"
  refine n_tupF W (sz rfl) fun p F1 H1 s1 h1 W1 => ?_
  walk_at "r"
  refine n_tupF W1 (sz rfl) fun q F2 H2 s2 h2 W2 => ?_
  exact kk _ F2 H2 (s1.trans s2) (.tup (st_of h2) (.cons ((Gr.of (s1.trans s2)).dp A.pen) (.cons (.tup (st_of (s2 _ _ h1)) (.cons (.int _) (.cons (.int _) .nil))) .nil))) W2
theorem rd_Screen_page (R : FScreen c) (RR : FRow c) : RD N_Screen_page (t_Screen_page c) (sp_Screen_page c) := by
  have cl := R.cl
  have n1 := R.n_rows
  rintro vs H Q E ⟨s, C, S, F, L, rfl, A, W, kk⟩
  have hlen := A.len
  have hh := A.wf.h2
  unfold t_Screen_page
  walk_at "r"
  refine x_ilist' (sq_of (W.old _ _ A.pr)) ?_
  have hl2 : (rowRefs C.rows).length = S.high := refs_len A
  refine x_lcOk (F := F) (ItOk.list (sq_of A.pr)) W (by omega) (fun i v F' => ∃ (r : Addr) (vals : List V), v = .ref r ∧ F r = none ∧ F' r = some (.lst vals) ∧ DpAll c.K F' vals ((S.rowAt i).cells.map Cell.data)) (fun _ _ _ _ g ⟨r, vals, a, b, d, e⟩ => ⟨r, vals, a, b, g.lst d, g.dpAll e⟩) (fun d i F1 H1 QQ hi s1 W1 kq => ?_) gm_name (fun D ys F1 H1 s1 hl hv W1 => ?_)
  · refine ⟨wipe1, ?_⟩
    obtain ⟨r, hr, e, hm, hrow, _⟩ := row_of A (i := i) (by omega)
    rw [e]
    walk_at "r"
    have W1' : Hold F1 (scrL c s C S (L ++ [d])) H1 := by
      have := W1
      simp only [List.cons_append, List.append_assoc] at this
      exact this
    refine x_cells RR W1' hr ?_
    walk_at "r"
    refine l_list (.inl (sq_of (cl_at W1' hr))) (newF W1 fun q F4 H4 s4 h4 W4 hq => ?_)
    refine kq _ F4 H4 s4 W4 ?_
    have hqF : F q = none := by
      cases e : F q with
      | none => rfl
      | some o => rw [s1 q o e] at hq; cases hq
    rw [hrow]
    exact ⟨q, r.vals, rfl, hqF, h4, (Gr.of (s1.trans s4)).dpAll (A.vals r hm)⟩
  · refine kk D ys F1 H1 s1 ⟨by rw [A.wf.rl, hl, hl2], fun i hi => ?_⟩ W1
    exact hv i (by rw [hl2, ← A.wf.rl]; exact hi)
theorem sp_page_tell {s : Addr} {C : ScrC} {S : Scr} {F H : Hp} {L : List (Addr × HO)} {Q : VK} {E : XK} (A : ScrAt c F C S) (W : Hold F (scrL c s C S L) H) (kk : ScrTell c s C S F L S.pageD Q) : sp_Screen_page c [.ref s] H Q E :=
  ⟨s, C, S, F, L, rfl, A, W, fun D ys F' H' s1 p W1 => kk _ _ H' (s1.trans W1.freezeS) (.lst (sq_of upd_same) ((Gr.of W1.freezeS).dpAll p.dpAll)) W1.freeze⟩
end
end Ss
/-! ## Screens: is_count, need_size, the making -/
namespace Ss
open PySem PySem.Spec PyProof.Rows L2
open Ss in
local macro_rules | `(tactic| walk_at "fg") => `(tactic| first | with_reducible exact fsScreen_g0 | with_reducible exact fsScreen_g1 | with_reducible exact fsScreen_g2 | with_reducible exact fsScreen_g3 | with_reducible exact fsScreen_g4 | with_reducible exact fsScreen_g5 | with_reducible exact fsScreen_g6 | with_reducible exact fsScreen_g7 | with_reducible exact fsScreen_g8 | with_reducible exact fsScreen_g9 | with_reducible exact fsScreen_g10 | with_reducible exact fsScreen_g11 | with_reducible exact fsScreen_g12 | with_reducible exact fsScreen_g13 | with_reducible exact fsRow_g0 | with_reducible exact fsRow_g1 | with_reducible exact fsReader_g0 | with_reducible exact fsReader_g1)
open Ss in
local macro_rules | `(tactic| walk_at "r") => `(tactic| repeat (first
  | with_reducible refine x_seq ?_ | with_reducible refine x_asg ?_ | with_reducible refine x_var rfl ?_ | with_reducible refine x_c ?_ | with_reducible refine x_op ?_ | with_reducible refine x_name ?_ | with_reducible refine x_gcons ?_ | with_reducible refine x_gnil ?_
  | with_reducible refine x_cons ?_ | with_reducible refine x_nil ?_ | with_reducible refine x_cb ?_ | with_reducible refine x_ifs ?_ | with_reducible refine x_test ?_ | with_reducible refine x_bl ?_
  | with_reducible refine g_addNN ?_ | with_reducible refine g_addNL ?_ | with_reducible refine g_addLN ?_ | with_reducible refine l_addI ?_ | with_reducible refine l_subI ?_ | with_reducible refine g_ltNL ?_ | with_reducible refine l_ltI ?_ | with_reducible refine l_leI ?_ | with_reducible refine l_gtI ?_ | with_reducible refine l_geI ?_ | with_reducible refine l_eqX ?_ | with_reducible refine l_neX ?_ | with_reducible refine g_eqNL ?_ | with_reducible refine l_eqII ?_ | with_reducible refine l_neII ?_ | with_reducible refine l_eq rfl ?_ | with_reducible refine l_ne rfl ?_
  | with_reducible refine x_fld ?_ | with_reducible refine x_ret ?_ | with_reducible refine x_drop ?_ | with_reducible refine x_next ?_ | with_reducible refine x_tup ?_ | with_reducible refine x_lst ?_ | with_reducible refine x_f ?_ | with_reducible refine x_o ?_ | with_reducible refine x_n ?_
  | with_reducible refine x_bm ?_ | with_reducible refine x_bm0 ?_ | with_reducible refine x_m1 ?_ | with_reducible refine x_m0 ?_ | with_reducible refine x_isstr ?_ | with_reducible refine x_tystr ?_ | with_reducible refine x_sl ?_ | with_reducible refine x_part ?_ | with_reducible refine x_part' ?_ | with_reducible refine x_nopart ?_
  | with_reducible refine x_sfld ?_ | with_reducible refine x_if ?_ | with_reducible refine x_isty ?_ | with_reducible refine x_chain ?_ | with_reducible refine x_andV ?_ | with_reducible refine x_orV ?_ | with_reducible refine x_notV ?_ | with_reducible refine x_B ?_ | with_reducible refine x_and ?_ | with_reducible refine x_or ?_ | with_reducible refine x_not ?_ | with_reducible refine x_tru ?_ | with_reducible refine x_yes ?_
  | with_reducible refine x_un ?_ | with_reducible refine x_neg ?_ | with_reducible refine x_par ?_ | with_reducible refine x_par' ?_ | with_reducible refine x_retN ?_ | with_reducible refine x_brk ?_ | with_reducible refine x_cont ?_ | with_reducible refine x_rz ?_
  | with_reducible refine l_leS ?_ | with_reducible refine l_ltS ?_ | with_reducible refine l_inX ?_ | with_reducible refine l_niX ?_ | with_reducible refine l_inS ?_ | with_reducible refine l_niS ?_ | with_reducible refine l_count ?_ | with_reducible refine l_ord ?_ | with_reducible refine l_max ?_ | with_reducible refine l_min ?_ | with_reducible refine l_intI ?_ | with_reducible refine l_intB ?_ | with_reducible refine l_is ?_ | with_reducible refine l_isn ?_
  | with_reducible refine g_modNL (by decide) ?_ | with_reducible refine g_divNL (by decide) (by decide) ?_ | with_reducible refine l_modI (by decide) ?_ | with_reducible refine x_for ?_ | with_reducible refine x_lc ?_ | with_reducible refine x_ilist ?_ | with_reducible refine x_itup ?_ | with_reducible refine x_istr ?_ | with_reducible refine x_istr' ?_ | with_reducible refine x_irng1 ?_ | with_reducible refine x_irng2 ?_
  | (with_reducible refine x_get (by first | assumption | exact Hold.get0 (by assumption) | exact Hold.get1 (by assumption)) (by assumption) (by assumption) (by walk_at "fg") ?_)
  | (with_reducible refine x_ao (by first | assumption | exact Hold.get0 (by assumption) | exact Hold.get1 (by assumption)) (by kernel_rfl) ?_)
  | with_reducible refine x_ienum ?_ | with_reducible refine x_izip ?_ | with_reducible refine x_chain3 ?_
  | (with_reducible refine x_par2 ?_)
  | (with_reducible refine x_par3 ?_) | (with_reducible refine x_par3' ?_)))
/-- a count, or a thing that is none -/
def CntArg (c : Ctx) (H : Hp) (x : V) : Prop := (∃ n, x = .int n) ∨ (∃ b, x = .bl b) ∨ ((∃ t, TyX c.K H x (.type t) ∧ kitB t "int" = some false) ∧ ∀ n, x ≠ .int n)
def cntOk (x : V) (lo hi : Int) : Bool := match x with
  | .int n => decide (lo ≤ n) && decide (n ≤ hi)
  | _ => false
theorem CntArg.gr {c : Ctx} {F F' : Hp} {x : V} (g : Gr F F') (h : CntArg c F x) : CntArg c F' x := by
  rcases h with h | h | ⟨⟨t, ht, hk⟩, hn⟩
  · exact .inl h
  · exact .inr (.inl h)
  · exact .inr (.inr ⟨⟨t, tyX_gr g ht, hk⟩, hn⟩)
theorem CntArg.nat {c : Ctx} {H : Hp} {n : Nat} : CntArg c H (.int (n : Nat)) := .inl ⟨_, rfl⟩
theorem cntOk_nat {n lo hi : Nat} (h1 : lo ≤ n) (h2 : n ≤ hi) : cntOk (.int (n : Nat)) (lo : Nat) (hi : Nat) = true := by
  show (decide ((lo : Int) ≤ (n : Int)) && decide ((n : Int) ≤ (hi : Int))) = true
  rw [decide_eq_true (by omega), decide_eq_true (by omega)]; rfl
theorem cntOk_get {x : V} {lo : Nat} {hi : Int} (h : cntOk x (lo : Nat) hi = true) : ∃ n : Nat, x = .int (n : Nat) ∧ lo ≤ n ∧ (n : Int) ≤ hi := by
  cases x with
  | int i =>
    have h' : (decide (((lo : Nat) : Int) ≤ i) && decide (i ≤ hi)) = true := h
    simp at h'
    exact ⟨i.toNat, by rw [Int.toNat_of_nonneg (by omega)], by omega, by omega⟩
  | _ => cases h
def sizeOk (x y z : V) : Bool := cntOk x 2 60 && cntOk y 2 40 && cntOk z 0 200
def sp_is_count (c : Ctx) : Sp := fun vs H Q _ => ∃ (x : V) (lo hi : Int), vs = [x, .int lo, .int hi] ∧ CntArg c H x ∧ Q (.bl (cntOk x lo hi)) H
def sp_need_size (c : Ctx) : Sp := fun vs H Q E => ∃ b : Bool, vs = [.bl b] ∧ (b = true → Q .non H) ∧ (b = false → E (.ref c.cBadSize) none H)
def sp_Screen_init (c : Ctx) : Sp := fun vs H Q E => ∃ (s dx : Addr) (x y z : V) (F : Hp) (L : List (Addr × HO)), vs = [.ref s, x, y, z] ∧ CntArg c F x ∧ CntArg c F y ∧ CntArg c F z ∧ Hold F ((s, .ins c.cScreen dx []) :: L) H ∧
  (∀ w h m : Nat, x = .int (w : Nat) → y = .int (h : Nat) → z = .int (m : Nat) → (2 ≤ w ∧ w ≤ 60) → (2 ≤ h ∧ h ≤ 40) → m ≤ 200 → ScrTo c s F L (Scr.new w h m) Q) ∧ (sizeOk x y z = false → E (.ref c.cBadSize) none H)
def t_is_count (c : Ctx) (E : XK) : TS :=
  (tRet (tAndV (tIsTy c.K (tVar 0) "int") (tAndV (tNotV (tIsTy c.K (tVar 0) "bool")) (tChain uLe uLe (tVar 1) (tVar 0) (tVar 2)))))
abbrev N_is_count : List Str := ["thing", "least", "most"]

def t_need_size (c : Ctx) (E : XK) : TS :=
  (tIfS (tNot (tB (tVar 0))) (tRz c.cBadSize E) tNext)
abbrev N_need_size : List Str := ["good"]

def t_Screen_init (c : Ctx) (E : XK) : TS :=
  (tSeq (tDrop (tF (sp_need_size c) E (tCons (tAndV (tF (sp_is_count c) E0 (tCons (tVar 1) (tCons (tC (v_LEAST_WIDE c)) (tCons (tC (v_MOST_WIDE c)) tNil)))) (tF (sp_is_count c) E0 (tCons (tVar 2) (tCons (tC (v_LEAST_HIGH c)) (tCons (tC (v_MOST_HIGH c)) tNil))))) tNil)))
  (tSeq (tDrop (tF (sp_need_size c) E (tCons (tF (sp_is_count c) E0 (tCons (tVar 3) (tCons (tC (.int 0)) (tCons (tC (v_MOST_KEPT c)) tNil)))) tNil)))
  (tSeq (sFld c.K (tVar 0) (tN c.cReader (sp_Reader_init c) E0 tNil) "reader")
  (tSeq (sFld c.K (tVar 0) (tVar 1) "wide")
  (tSeq (sFld c.K (tVar 0) (tVar 2) "high")
  (tSeq (sFld c.K (tVar 0) (tVar 3) "most")
  (tSeq (sFld c.K (tVar 0) (tLst tNil) "past")
  (tDrop (tO c.cScreen "begin" (sp_Screen_begin c) E0 (tVar 0) tNil)))))))))
abbrev N_Screen_init : List Str := ["self", "wide", "high", "most"]

section
variable {c : Ctx}
theorem rd_is_count : RD N_is_count (t_is_count c) (sp_is_count c) := by
  rintro vs H Q E ⟨x, lo, hi, rfl, ca, kk⟩
  unfold t_is_count
  walk_at "r"
  rcases ca with ⟨n, rfl⟩ | ⟨b, rfl⟩ | ⟨⟨t, ht, hk⟩, hne⟩
  · refine l_isTy (.base (.int _)) (by decide +kernel : kitB "int" "int" = some true) ?_
    walk_at "r"
    refine wT rfl ?_
    walk_at "r"
    refine l_isTy (.base (.int _)) (by decide +kernel : kitB "int" "bool" = some false) ?_
    walk_at "r"
    refine wT rfl ?_
    walk_at "r"
    have kk' : Q (.bl (decide (lo ≤ n) && decide (n ≤ hi))) H := kk
    refine w2 (fun h => ?_) (fun h => ?_)
    · rw [h, Bool.true_and] at kk'
      walk_at "r"
      exact kk'
    · rw [h, Bool.false_and] at kk'
      walk_at "r"
      exact kk'
  · refine l_isTy (.base (.bl _)) (by decide +kernel : kitB "bool" "int" = some true) ?_
    walk_at "r"
    refine wT rfl ?_
    walk_at "r"
    refine l_isTy (.base (.bl _)) (by decide +kernel : kitB "bool" "bool" = some true) ?_
    walk_at "r"
    refine wF rfl ?_
    walk_at "r"
    exact kk
  · refine l_isTy ht hk ?_
    walk_at "r"
    refine wF rfl ?_
    walk_at "r"
    have e : cntOk x lo hi = false := by
      cases x with
      | int n => exact absurd rfl (hne n)
      | _ => rfl
    rw [e] at kk
    exact kk
theorem rd_need_size : RD N_need_size (t_need_size c) (sp_need_size c) := by
  rintro vs H Q E ⟨b, rfl, k1, k2⟩
  unfold t_need_size
  walk_at "r"
  cases b with
  | true => refine wF rfl ?_; walk_at "r"; exact k1 rfl
  | false => refine wT rfl ?_; walk_at "r"; exact k2 rfl
theorem rd_Screen_init (R : FScreen c) : RD N_Screen_init (t_Screen_init c) (sp_Screen_init c) := by
  have cl := R.cl
  rintro vs H Q E ⟨s, dx, x, y, z, F, L, rfl, cx, cy, cz, W, kk, kb⟩
  have kb' : (cntOk x 2 60 && cntOk y 2 40 && cntOk z 0 200) = false → E (.ref c.cBadSize) none H := kb
  unfold t_Screen_init
  walk_at "r"
  refine ⟨_, _, _, rfl, cx.gr W.gr, ?_⟩
  walk_at "r"
  refine w2 (fun c1 => ?_) (fun c1 => ?_)
  case refine_2 =>
    walk_at "r"
    exact ⟨false, rfl, fun z => (nomatch z), fun _ => kb' (by rw [c1]; rfl)⟩
  walk_at "r"
  refine ⟨_, _, _, rfl, cy.gr W.gr, ?_⟩
  walk_at "r"
  refine ⟨cntOk y 2 40, rfl, fun c2 => ?_, fun c2 => kb' (by rw [c1, c2]; rfl)⟩
  walk_at "r"
  refine ⟨_, _, _, rfl, cz.gr W.gr, ?_⟩
  walk_at "r"
  refine ⟨cntOk z 0 200, rfl, fun c3 => ?_, fun c3 => kb' (by rw [c1, c2, c3]; rfl)⟩
  obtain ⟨w, rfl, w1, w2'⟩ := cntOk_get (lo := 2) c1
  obtain ⟨h, rfl, h1, h2⟩ := cntOk_get (lo := 2) c2
  obtain ⟨m, rfl, _, hm'⟩ := cntOk_get (lo := 0) c3
  have w2' : w ≤ 60 := by omega
  have h2 : h ≤ 40 := by omega
  have hm : m ≤ 200 := by omega
  have kk := kk w h m rfl rfl rfl ⟨w1, w2'⟩ ⟨h1, h2⟩ hm
  walk_at "r"
  refine x_an W fun x rdx H1 W1 => ?_
  refine ⟨x, rdx, F, (s, .ins c.cScreen dx []) :: L, rfl, W1, fun H2 W2 => ⟨rfl, ?_⟩⟩
  have W2' : Hold F ((s, .ins c.cScreen dx []) :: (x, rdO c rdx Rdr.new) :: L) H2 := W2.perm (List.Perm.swap _ _ _)
  walk_at "r"
  refine x_put0 (fs' := [("reader", .ref x)]) W2' cl R.n_reader (by show 0 < 1000; decide) (by kernel_rfl) fun H3 W3 => ?_
  walk_at "r"
  refine x_put0 (fs' := [("reader", .ref x), ("wide", .int (w : Nat))]) W3 cl R.n_wide (by show 1 < 1000; decide) (by kernel_rfl) fun H4 W4 => ?_
  walk_at "r"
  refine x_put0 (fs' := [("reader", .ref x), ("wide", .int (w : Nat)), ("high", .int (h : Nat))]) W4 cl R.n_high (by show 2 < 1000; decide) (by kernel_rfl) fun H5 W5 => ?_
  walk_at "r"
  refine x_put0 (fs' := [("reader", .ref x), ("wide", .int (w : Nat)), ("high", .int (h : Nat)), ("most", .int (m : Nat))]) W5 cl R.n_most (by show 3 < 1000; decide) (by kernel_rfl) fun H6 W6 => ?_
  walk_at "r"
  refine n_lstF W6 (sz rfl) fun p F7 H7 s7 h7 W7 => ?_
  walk_at "r"
  refine x_put0 (fs' := fsPart (.ref x) (.int (w : Nat)) (.int (h : Nat)) (.int (m : Nat)) (.ref p)) W7 cl R.n_past (by show 4 < 1000; decide) (by kernel_rfl) fun H8 W8 => ?_
  walk_at "r"
  refine ⟨s, { dx := dx, r := x, rdx := rdx, pp := p, pr := p, penv := .non, pbv := .non, past := [], rows := [] }, ⟨Rdr.new, w, h, m, [], [], 0, 0, false, plainPen, 0, 0, (0, 0, plainPen), none⟩, _, F7, L, rfl, .inr rfl, ⟨w1, w2', h1, h2, hm, Nat.zero_le _, fun _ z => (nomatch z), trivial, rfl, h7, fun _ z => (nomatch z)⟩, W8, fun C' F' H' s9 A' W9 => ?_⟩
  walk_at "r"
  exact kk C' F' H' (s7.trans s9) A' W9
end
end Ss
/-! ## Screens: kept, texts -/
namespace Ss
open PySem PySem.Spec PyProof.Rows L2
open Ss in
local macro_rules | `(tactic| walk_at "fg") => `(tactic| first | with_reducible exact fsScreen_g0 | with_reducible exact fsScreen_g1 | with_reducible exact fsScreen_g2 | with_reducible exact fsScreen_g3 | with_reducible exact fsScreen_g4 | with_reducible exact fsScreen_g5 | with_reducible exact fsScreen_g6 | with_reducible exact fsScreen_g7 | with_reducible exact fsScreen_g8 | with_reducible exact fsScreen_g9 | with_reducible exact fsScreen_g10 | with_reducible exact fsScreen_g11 | with_reducible exact fsScreen_g12 | with_reducible exact fsScreen_g13 | with_reducible exact fsRow_g0 | with_reducible exact fsRow_g1 | with_reducible exact fsReader_g0 | with_reducible exact fsReader_g1)
open Ss in
local macro_rules | `(tactic| walk_at "r") => `(tactic| repeat (first
  | with_reducible refine x_seq ?_ | with_reducible refine x_asg ?_ | with_reducible refine x_var rfl ?_ | with_reducible refine x_c ?_ | with_reducible refine x_op ?_ | with_reducible refine x_name ?_ | with_reducible refine x_gcons ?_ | with_reducible refine x_gnil ?_
  | with_reducible refine x_cons ?_ | with_reducible refine x_nil ?_ | with_reducible refine x_cb ?_ | with_reducible refine x_ifs ?_ | with_reducible refine x_test ?_ | with_reducible refine x_bl ?_
  | with_reducible refine g_addNN ?_ | with_reducible refine g_addNL ?_ | with_reducible refine g_addLN ?_ | with_reducible refine l_addI ?_ | with_reducible refine l_subI ?_ | with_reducible refine g_ltNL ?_ | with_reducible refine l_ltI ?_ | with_reducible refine l_leI ?_ | with_reducible refine l_gtI ?_ | with_reducible refine l_geI ?_ | with_reducible refine l_eqX ?_ | with_reducible refine l_neX ?_ | with_reducible refine g_eqNL ?_ | with_reducible refine l_eqII ?_ | with_reducible refine l_neII ?_ | with_reducible refine l_eq rfl ?_ | with_reducible refine l_ne rfl ?_
  | with_reducible refine x_fld ?_ | with_reducible refine x_ret ?_ | with_reducible refine x_drop ?_ | with_reducible refine x_next ?_ | with_reducible refine x_tup ?_ | with_reducible refine x_lst ?_ | with_reducible refine x_f ?_ | with_reducible refine x_o ?_ | with_reducible refine x_n ?_
  | with_reducible refine x_bm ?_ | with_reducible refine x_bm0 ?_ | with_reducible refine x_m1 ?_ | with_reducible refine x_m0 ?_ | with_reducible refine x_isstr ?_ | with_reducible refine x_tystr ?_ | with_reducible refine x_sl ?_ | with_reducible refine x_part ?_ | with_reducible refine x_part' ?_ | with_reducible refine x_nopart ?_
  | with_reducible refine x_sfld ?_ | with_reducible refine x_if ?_ | with_reducible refine x_isty ?_ | with_reducible refine x_chain ?_ | with_reducible refine x_andV ?_ | with_reducible refine x_orV ?_ | with_reducible refine x_notV ?_ | with_reducible refine x_B ?_ | with_reducible refine x_and ?_ | with_reducible refine x_or ?_ | with_reducible refine x_not ?_ | with_reducible refine x_tru ?_ | with_reducible refine x_yes ?_
  | with_reducible refine x_un ?_ | with_reducible refine x_neg ?_ | with_reducible refine x_par ?_ | with_reducible refine x_par' ?_ | with_reducible refine x_retN ?_ | with_reducible refine x_brk ?_ | with_reducible refine x_cont ?_ | with_reducible refine x_rz ?_
  | with_reducible refine l_leS ?_ | with_reducible refine l_ltS ?_ | with_reducible refine l_inX ?_ | with_reducible refine l_niX ?_ | with_reducible refine l_inS ?_ | with_reducible refine l_niS ?_ | with_reducible refine l_count ?_ | with_reducible refine l_ord ?_ | with_reducible refine l_max ?_ | with_reducible refine l_min ?_ | with_reducible refine l_intI ?_ | with_reducible refine l_intB ?_ | with_reducible refine l_is ?_ | with_reducible refine l_isn ?_
  | with_reducible refine g_modNL (by decide) ?_ | with_reducible refine g_divNL (by decide) (by decide) ?_ | with_reducible refine l_modI (by decide) ?_ | with_reducible refine x_for ?_ | with_reducible refine x_lc ?_ | with_reducible refine x_ilist ?_ | with_reducible refine x_itup ?_ | with_reducible refine x_istr ?_ | with_reducible refine x_istr' ?_ | with_reducible refine x_irng1 ?_ | with_reducible refine x_irng2 ?_
  | (with_reducible refine x_get (by first | assumption | exact Hold.get0 (by assumption) | exact Hold.get1 (by assumption)) (by assumption) (by assumption) (by walk_at "fg") ?_)
  | (with_reducible refine x_ao (by first | assumption | exact Hold.get0 (by assumption) | exact Hold.get1 (by assumption)) (by kernel_rfl) ?_)
  | with_reducible refine x_ienum ?_ | with_reducible refine x_izip ?_ | with_reducible refine x_chain3 ?_
  | (with_reducible refine x_par2 ?_)
  | (with_reducible refine x_par3 ?_) | (with_reducible refine x_par3' ?_)))
/-- a text without its blanks at the end -/
def rstripL (l : List Nat) : List Nat := (l.reverse.dropWhile (· == 32)).reverse
/-- a row's signs, with no blanks at the end -/
def rowL (p : PRow) : List Nat := rstripL (p.cells.map (·.sign))
abbrev rowText (p : PRow) : Str := T (rowL p)
abbrev textsV (l : List PRow) : List V := l.map fun p => .str (rowText p)
def textsD (l : List PRow) : PyData := .list (l.map fun p => .str (rowText p))
def sp_Screen_kept (c : Ctx) : Sp := fun vs H Q _ => ∃ (s : Addr) (C : ScrC) (S : Scr) (F : Hp) (L : List (Addr × HO)), vs = [.ref s] ∧ ScrAt c F C S ∧ Hold F (scrL c s C S L) H ∧ ScrOwn c s C S F L (fun _ ys => ys = textsV S.past) Q
def sp_Screen_texts (c : Ctx) : Sp := fun vs H Q _ => ∃ (s : Addr) (C : ScrC) (S : Scr) (F : Hp) (L : List (Addr × HO)), vs = [.ref s] ∧ ScrAt c F C S ∧ Hold F (scrL c s C S L) H ∧ ScrOwn c s C S F L (fun _ ys => ys = textsV S.rows) Q
theorem rstrip_eq (l : List Nat) : Txt.rstripChars (T l) ⟨#[32]⟩ = T (rstripL l) := by
  have key : l.take (l.length - (l.reverse.takeWhile (⟨#[32]⟩ : Str).cps.contains).length) = rstripL l := by
    have e : (⟨#[32]⟩ : Str).cps.contains = (fun x : Nat => x == 32) := by funext x; rw [Bool.eq_iff_iff]; simp
    rw [e]
    unfold rstripL
    have h := List.takeWhile_append_dropWhile (p := fun x : Nat => x == 32) (l := l.reverse)
    generalize hA : l.reverse.takeWhile (fun x : Nat => x == 32) = A at h
    generalize hB : l.reverse.dropWhile (fun x : Nat => x == 32) = B at h
    have hl : l = B.reverse ++ A.reverse := by rw [← List.reverse_append, h, List.reverse_reverse]
    rw [hl]
    rw [show (B.reverse ++ A.reverse).length - A.length = B.reverse.length by simp]
    exact List.take_left
  unfold Txt.rstripChars Txt.stripBy
  split
  · rename_i hs
    unfold stripSame at hs
    rw [Bool.and_eq_true] at hs
    have h2 : stripHi (⟨#[32]⟩ : Str).cps.contains true (T l) 0 = (T l).length := by simpa [stripLo] using hs.2
    unfold stripHi at h2
    rw [if_pos rfl, T_len, T_list, List.drop_zero] at h2
    rw [h2, List.take_length] at key
    rw [← key]
  · show (⟨(T l).cps.extract 0 (stripHi (⟨#[32]⟩ : Str).cps.contains true (T l) 0)⟩ : Str) = _
    unfold stripHi
    rw [if_pos rfl, T_len, T_list, List.drop_zero, ← key]
    simp
def t_Screen_kept (c : Ctx) (E : XK) : TS :=
  (tRet (tLc (iList c.K (tFld c.K (tVar 0) "past")) (gName 2) tYes (tBM c.K "str" u_rstrip (tM1 (u_join c.K) (tC (.str ⟨#[]⟩)) (tLc (iList c.K (tFld c.K (tVar 2) "cells")) (gName 1) tYes (tOp (uIx c.K) (tVar 1) (tC (.int 0))) [1])) (tCons (tC (.str ⟨#[32]⟩)) tNil)) [2]))
abbrev N_Screen_kept : List Str := ["self", "cell", "row"]

def t_Screen_texts (c : Ctx) (E : XK) : TS :=
  (tRet (tLc (iList c.K (tFld c.K (tVar 0) "rows")) (gName 2) tYes (tBM c.K "str" u_rstrip (tM1 (u_join c.K) (tC (.str ⟨#[]⟩)) (tLc (iList c.K (tFld c.K (tVar 2) "cells")) (gName 1) tYes (tOp (uIx c.K) (tVar 1) (tC (.int 0))) [1])) (tCons (tC (.str ⟨#[32]⟩)) tNil)) [2]))
abbrev N_Screen_texts : List Str := ["self", "cell", "row"]

section
variable {c : Ctx}
theorem texts_of {l : List PRow} {ys : List V} (hl : ys.length = l.length) (h : ∀ i, i < l.length → ys.getD i .non = .str (rowText (l.getD i ⟨[], false⟩))) : ys = textsV l := by
  refine List.ext_getElem? fun i => ?_
  by_cases hi : i < l.length
  · have a := h i hi
    rw [List.getD_eq_getElem?_getD, List.getElem?_eq_getElem (by omega), List.getD_eq_getElem?_getD, List.getElem?_eq_getElem hi] at a
    rw [List.getElem?_eq_getElem (by omega), List.getElem?_map, List.getElem?_eq_getElem hi]
    exact congrArg some a
  · rw [List.getElem?_eq_none (by omega), List.getElem?_eq_none (by simpa using hi)]
theorem cell_view {K : PySem.W.Frag} {F : Hp} {v : V} {x : Cell} (h : Dp K F v x.data) : ∃ b pv, v = .ref b ∧ SqT K F b [.str (T [x.sign]), pv] ∧ Dp K F pv (penData x.pen) := by
  cases h with
  | tup hs ha =>
    cases ha with
    | cons h1 h2 =>
      cases h1
      cases h2 with
      | cons h3 h4 => cases h4; exact ⟨_, _, rfl, hs, h3⟩
/-- ''.join([cell[0] for cell in row.cells]).rstrip(' ') of the row in slot k -/
theorem x_rowText {σ : L2.St} {F H : Hp} {L : List (Addr × HO)} {Q : VK} {r : RowC} {dx : Addr} {g : Bool} {i k : Nat} (RR : FRow c) (W : Hold F L H) (hk : σ[k]? = some (some (.ref r.a))) (hi : i < σ.length) (ho : F r.a = some (rowO c dx r.cl g)) (hc : F r.cl = some (.lst r.vals)) (hd : cellsAt c F r) (hl : r.row.cells.length ≤ 60)
    (kk : ∀ F' H', Same F F' → Hold F' L H' → Q (.str (rowText r.row)) H') :
    tBM c.K "str" u_rstrip (tM1 (u_join c.K) (tC (.str ⟨#[]⟩)) (tLc (iList c.K (tFld c.K (tVar k) "cells")) (gName i) tYes (tOp (uIx c.K) (tVar i) (tC (.int 0))) [i])) (tCons (tC (.str ⟨#[32]⟩)) tNil) σ H Q := by
  have cl := RR.cl
  have n1 := RR.n_cells
  have hvl := one_in hd
  refine x_bm (x_m1 (x_c (x_isstr (x_lc (x_ilist (x_fld (x_var hk (x_get (W.old _ _ ho) cl n1 fsRow_g0 ?_))))))))
  refine x_ilist' (sq_of (W.old _ _ hc)) ?_
  refine x_lcOk (F := F) (ItOk.list (sq_of hc)) W (by omega) (fun j v _ => v = .str (T [(r.row.cells.getD j blankCell).sign])) (fun _ _ _ _ _ h => h) (fun d j F' H' QQ hj s W' kq => ?_) gm_name (fun D ys F' H' s hlen hv W' => ?_)
  · refine ⟨wipe1, ?_⟩
    have hj' : j < r.row.cells.length := by omega
    have hdj := dpAll_get hd j (by rw [List.length_map]; exact hj')
    rw [getD_map (d := blankCell) hj'] at hdj
    obtain ⟨b, pv, eb, hb, _⟩ := cell_view hdj
    rw [eb]
    refine x_op (x_var (v := .ref b) (by rw [List.getElem?_set_self (by rw [wipe_length]; exact hi)]) (x_c ?_))
    exact l_ixT (W'.gr.sqT ((Gr.of s).sqT hb)) rfl (kq _ F' H' (Same.refl F') W' rfl)
  · have ey : ys = (r.row.cells.map fun x => [x.sign]).map fun l => .str (T l) := by
      refine List.ext_getElem? fun j => ?_
      by_cases hj : j < r.row.cells.length
      · have a1 := hv j (by omega)
        have hjy : j < ys.length := by omega
        rw [List.getD_eq_getElem?_getD, List.getElem?_eq_getElem hjy, List.getD_eq_getElem?_getD, List.getElem?_eq_getElem hj] at a1
        rw [List.getElem?_eq_getElem hjy, List.getElem?_map, List.getElem?_map, List.getElem?_eq_getElem hj]
        exact congrArg some a1
      · rw [List.getElem?_eq_none (by omega), List.getElem?_eq_none (by simpa using hj)]
    rw [ey] at W'
    refine l_join 1 (.inl (sq_of W'.get0)) (fun l hl => ?_) (by simp; omega) ?_
    · obtain ⟨x, hx, rfl⟩ := List.mem_map.mp hl
      exact Nat.le_refl _
    · rw [joinL_nil]
      have ef : (r.row.cells.map fun x => [x.sign]).flatten = r.row.cells.map (·.sign) := by
        generalize r.row.cells = l
        induction l with
        | nil => rfl
        | cons x l ih => rw [List.map_cons, List.flatten_cons, ih]; rfl
      rw [ef]
      refine x_tystr (x_cons (x_c (x_nil ⟨_, _, rfl, rfl, ?_, by rw [rstrip_eq]; exact kk F' H' s W'.drop⟩)))
      rw [T_len, List.length_map]
      exact szl (by omega)
theorem rd_Screen_kept (R : FScreen c) (RR : FRow c) : RD N_Screen_kept (t_Screen_kept c) (sp_Screen_kept c) := by
  have cl := R.cl
  have n1 := R.n_past
  rintro vs H Q E ⟨s, C, S, F, L, rfl, A, W, kk⟩
  have hpl := A.plen
  have hlen : C.past.length = S.past.length := by rw [← A.past, List.length_map]
  have hw2 := A.wf.w2
  unfold t_Screen_kept
  walk_at "r"
  refine x_ilist' (sq_of (W.old _ _ A.pp)) ?_
  have hl2 : (rowRefs C.past).length = C.past.length := by unfold rowRefs; rw [List.length_map]
  refine x_lcOk (F := F) (ItOk.list (sq_of A.pp)) W (by omega) (fun i v F' => v = .str (rowText (S.past.getD i ⟨[], false⟩))) (fun _ _ _ _ g h => h) (fun d i F1 H1 QQ hi s1 W1 kq => ?_) gm_name (fun D ys F1 H1 s1 hl hv W1 => ?_)
  · refine ⟨wipe1, ?_⟩
    have hi' : i < C.past.length := by omega
    have hr : C.past[i]? = some C.past[i] := List.getElem?_eq_getElem hi'
    have hm : C.past[i] ∈ C.past := List.getElem_mem hi'
    have e : (rowRefs C.past).getD i .non = .ref C.past[i].a := by unfold rowRefs; rw [List.getD_eq_getElem?_getD, List.getElem?_map, hr]; rfl
    have e2 : S.past.getD i ⟨[], false⟩ = C.past[i].row := by rw [← A.past, List.getD_eq_getElem?_getD, List.getElem?_map, hr]; rfl
    rw [e]
    obtain ⟨x1, x2, x3⟩ := A.pin _ hm
    have hwr : C.past[i].row.cells.length ≤ 60 := by
      rw [A.wf.pw C.past[i].row (by rw [← A.past]; exact List.mem_map_of_mem hm)]; exact hw2
    refine x_rowText RR W1 (by rw [List.getElem?_set_self (by rw [wipe_length]; show 2 < 3; decide)]) (by rw [List.length_set, wipe_length]; show 1 < 3; decide) (s1 _ _ x1) (s1 _ _ x2) ((Gr.of s1).dpAll x3) hwr fun F4 H4 s4 W4 => ?_
    exact kq _ F4 H4 s4 W4 (by rw [e2])
  · refine kk D ys F1 H1 s1 (texts_of (by omega) fun i hi => hv i (by omega)) W1
def thawF (F : Hp) (p : Addr) : Hp := fun b => if b = p then none else F b
theorem thaw_same {F F' : Hp} {p : Addr} (s : Same F F') (h : F p = none) : Same F (thawF F' p) := fun b o e => by
  have hb : b ≠ p := fun z => by rw [z, h] at e; cases e
  show (if b = p then none else F' b) = some o
  rw [if_neg hb]; exact s b o e
theorem Hold.thaw {F H : Hp} {L : List (Addr × HO)} {p : Addr} {o : HO} (W : Hold F L H) (h : F p = some o) : Hold (thawF F p) ((p, o) :: L) H where
  old := fun b u e => by
    have e' : (if b = p then none else F b) = some u := e
    split at e'
    · cases e'
    · exact W.old b u e'
  own := fun x hx => by
    rcases List.mem_cons.mp hx with rfl | hx
    · exact W.old p o h
    · exact W.own x hx
  sep := fun x hx => by
    show (if x.1 = p then none else F x.1) = none
    split
    · rfl
    · rename_i hp
      rcases List.mem_cons.mp hx with rfl | hx
      · exact absurd rfl hp
      · exact W.sep x hx
  nd := by
    rw [List.map_cons, List.nodup_cons]
    refine ⟨fun hm => ?_, W.nd⟩
    obtain ⟨x, hx, e⟩ := List.mem_map.mp hm
    have z := W.sep x hx
    have e' : x.1 = p := e
    rw [e', h] at z; cases z
/-- the same of one of the screen's own rows -/
theorem x_rowTextS {σ : L2.St} {F H : Hp} {L : List (Addr × HO)} {Q : VK} {s : Addr} {C : ScrC} {S : Scr} {r : RowC} {i k j : Nat} (RR : FRow c) (W : Hold F (scrL c s C S L) H) (hr : C.rows[j]? = some r) (hk : σ[k]? = some (some (.ref r.a))) (hi : i < σ.length) (hd : cellsAt c F r) (hl : r.row.cells.length ≤ 60)
    (kk : ∀ F' H', Same F F' → Hold F' (scrL c s C S L) H' → Q (.str (rowText r.row)) H') :
    tBM c.K "str" u_rstrip (tM1 (u_join c.K) (tC (.str ⟨#[]⟩)) (tLc (iList c.K (tFld c.K (tVar k) "cells")) (gName i) tYes (tOp (uIx c.K) (tVar i) (tC (.int 0))) [i])) (tCons (tC (.str ⟨#[32]⟩)) tNil) σ H Q := by
  have W1 := W.row2 hr
  have W2 := W1.freeze
  have s2 := W1.freezeS
  have ea : (upd F r.a (rowO c r.dx r.cl r.row.goes)) r.a = some (rowO c r.dx r.cl r.row.goes) := upd_same
  have na : F r.a = none := W1.sep _ List.mem_cons_self
  generalize upd F r.a (rowO c r.dx r.cl r.row.goes) = F2 at W2 s2 ea
  have W3 := W2.freeze
  have s3 := W2.freezeS
  have ec : (upd F2 r.cl (.lst r.vals)) r.cl = some (.lst r.vals) := upd_same
  have nc : F2 r.cl = none := W2.sep _ List.mem_cons_self
  generalize upd F2 r.cl (.lst r.vals) = F3 at W3 s3 ec
  refine x_rowText RR W3 hk hi (s3 _ _ ea) ec ((Gr.of (s2.trans s3)).dpAll hd) hl fun F4 H4 s4 W4 => ?_
  have W5 := W4.thaw (s4 _ _ ec)
  have s5 : Same F2 (thawF F4 r.cl) := thaw_same (s3.trans s4) nc
  have W6 := W5.thaw (s5 _ _ ea)
  have s6 : Same F (thawF (thawF F4 r.cl) r.a) := thaw_same (s2.trans s5) na
  refine kk _ H4 s6 ?_
  have hj : j < C.rows.length := (List.getElem?_eq_some_iff.mp hr).1
  have z := W6.row2Back (C := C) (i := j) hj
  have e : C.rows.set j r = C.rows := by
    refine List.ext_getElem? fun m => ?_
    by_cases e : j = m
    · subst e; rw [List.getElem?_set_self hj, hr]
    · rw [List.getElem?_set_ne e]
  rw [e] at z; exact z
theorem rd_Screen_texts (R : FScreen c) (RR : FRow c) : RD N_Screen_texts (t_Screen_texts c) (sp_Screen_texts c) := by
  have cl := R.cl
  have n1 := R.n_rows
  rintro vs H Q E ⟨s, C, S, F, L, rfl, A, W, kk⟩
  have hlen := A.len
  have hh := A.wf.h2
  have hw2 := A.wf.w2
  unfold t_Screen_texts
  walk_at "r"
  refine x_ilist' (sq_of (W.old _ _ A.pr)) ?_
  have hl2 : (rowRefs C.rows).length = S.high := refs_len A
  refine x_lcOk (F := F) (ItOk.list (sq_of A.pr)) W (by omega) (fun i v F' => v = .str (rowText (S.rows.getD i ⟨[], false⟩))) (fun _ _ _ _ g h => h) (fun d i F1 H1 QQ hi s1 W1 kq => ?_) gm_name (fun D ys F1 H1 s1 hl hv W1 => ?_)
  · refine ⟨wipe1, ?_⟩
    obtain ⟨r, hr, e, hm, hrow, _⟩ := row_of A (i := i) (by omega)
    rw [e]
    have W1' : Hold F1 (scrL c s C S (L ++ [d])) H1 := by
      have := W1
      simp only [List.cons_append, List.append_assoc] at this
      exact this
    have hwr : r.row.cells.length ≤ 60 := by rw [row_w A hm]; exact hw2
    refine x_rowTextS RR W1' hr (by rw [List.getElem?_set_self (by rw [wipe_length]; show 2 < 3; decide)]) (by rw [List.length_set, wipe_length]; show 1 < 3; decide) ((Gr.of s1).dpAll (A.vals r hm)) hwr fun F4 H4 s4 W4 => ?_
    refine kq _ F4 H4 s4 ?_ (by have e2 : S.rows.getD i ⟨[], false⟩ = r.row := hrow
                                rw [e2])
    simp only [List.cons_append, List.append_assoc]
    exact W4
  · have hrl := A.wf.rl
    refine kk D ys F1 H1 s1 (texts_of (by omega) fun i hi => hv i (by omega)) W1
theorem texts_dp {K : PySem.W.Frag} {F : Hp} (l : List PRow) : DpAll K F (textsV l) (l.map fun p => .str (rowText p)) := by
  induction l with
  | nil => exact .nil
  | cons p l ih => exact .cons (.str _) ih
theorem sp_kept_tell {s : Addr} {C : ScrC} {S : Scr} {F H : Hp} {L : List (Addr × HO)} {Q : VK} {E : XK} (A : ScrAt c F C S) (W : Hold F (scrL c s C S L) H) (kk : ScrTell c s C S F L (textsD S.past) Q) : sp_Screen_kept c [.ref s] H Q E :=
  ⟨s, C, S, F, L, rfl, A, W, fun D ys F' H' s1 p W1 => kk _ _ H' (s1.trans W1.freezeS) (.lst (sq_of upd_same) (by rw [p]; exact texts_dp _)) W1.freeze⟩
theorem sp_texts_tell {s : Addr} {C : ScrC} {S : Scr} {F H : Hp} {L : List (Addr × HO)} {Q : VK} {E : XK} (A : ScrAt c F C S) (W : Hold F (scrL c s C S L) H) (kk : ScrTell c s C S F L (textsD S.rows) Q) : sp_Screen_texts c [.ref s] H Q E :=
  ⟨s, C, S, F, L, rfl, A, W, fun D ys F' H' s1 p W1 => kk _ _ H' (s1.trans W1.freezeS) (.lst (sq_of upd_same) (by rw [p]; exact texts_dp _)) W1.freeze⟩
def sp_Screen_size (c : Ctx) : Sp := fun vs H Q _ => ∃ (s : Addr) (C : ScrC) (S : Scr) (F : Hp) (L : List (Addr × HO)), vs = [.ref s] ∧ Hold F (scrL c s C S L) H ∧ ScrTell c s C S F L (.tuple [.int (S.wide : Nat), .int (S.high : Nat)]) Q
def sp_Screen_cell (c : Ctx) : Sp := fun vs H Q E => ∃ (s : Addr) (C : ScrC) (S : Scr) (x y : V) (F : Hp) (L : List (Addr × HO)), vs = [.ref s, x, y] ∧ CntArg c F x ∧ CntArg c F y ∧ ScrAt c F C S ∧ Hold F (scrL c s C S L) H ∧
  (∀ i j : Nat, x = .int (i : Nat) → y = .int (j : Nat) → i < S.high → j < S.wide → ∀ v, Dp c.K F v ((S.rowAt i).cells.getD j blankCell).data → Q v H) ∧ ((cntOk x 0 ((S.high : Int) - 1) && cntOk y 0 ((S.wide : Int) - 1)) = false → E (.ref c.cBadPlace) none H)
def t_Screen_size (c : Ctx) (E : XK) : TS :=
  (tRet (tTup (tCons (tFld c.K (tVar 0) "wide") (tCons (tFld c.K (tVar 0) "high") tNil))))
abbrev N_Screen_size : List Str := ["self"]

def t_Screen_cell (c : Ctx) (E : XK) : TS :=
  (tSeq (tIfS (tOr (tNot (tB (tF (sp_is_count c) E0 (tCons (tVar 1) (tCons (tC (.int 0)) (tCons (tOp uSub (tFld c.K (tVar 0) "high") (tC (.int 1))) tNil)))))) (tNot (tB (tF (sp_is_count c) E0 (tCons (tVar 2) (tCons (tC (.int 0)) (tCons (tOp uSub (tFld c.K (tVar 0) "wide") (tC (.int 1))) tNil))))))) (tRz c.cBadPlace E) tNext)
  (tRet (tOp (uIx c.K) (tFld c.K (tOp (uIx c.K) (tFld c.K (tVar 0) "rows") (tVar 1)) "cells") (tVar 2))))
abbrev N_Screen_cell : List Str := ["self", "row", "column"]

theorem rd_Screen_size (R : FScreen c) : RD N_Screen_size (t_Screen_size c) (sp_Screen_size c) := by
  have cl := R.cl
  have n1 := R.n_wide
  have n2 := R.n_high
  rintro vs H Q E ⟨s, C, S, F, L, rfl, W, kk⟩
  unfold t_Screen_size
  walk_at "r"
  refine n_tupF W (sz rfl) fun p F' H' s1 h1 W1 => ?_
  exact kk _ F' H' s1 (.tup (st_of h1) (.cons (.int _) (.cons (.int _) .nil))) W1
theorem rd_Screen_cell (R : FScreen c) (RR : FRow c) : RD N_Screen_cell (t_Screen_cell c) (sp_Screen_cell c) := by
  have cl := R.cl
  have n1 := R.n_wide
  have n2 := R.n_high
  have n3 := R.n_rows
  rintro vs H Q E ⟨s, C, S, x, y, F, L, rfl, cx, cy, A, W, kk, kb⟩
  have wf := A.wf
  unfold t_Screen_cell
  walk_at "r"
  refine ⟨_, _, _, rfl, cx.gr W.gr, ?_⟩
  walk_at "r"
  generalize hc1 : cntOk x 0 ((S.high : Int) - 1) = b1 at kb
  generalize hc2 : cntOk y 0 ((S.wide : Int) - 1) = b2 at kb
  cases b1 with
  | false =>
    refine wT rfl ?_
    walk_at "r"
    refine wT rfl ?_
    walk_at "r"
    exact kb rfl
  | true =>
    refine wF rfl ?_
    walk_at "r"
    refine ⟨_, _, _, rfl, cy.gr W.gr, ?_⟩
    rw [hc2]
    walk_at "r"
    cases b2 with
    | false =>
      refine wT rfl ?_
      walk_at "r"
      exact kb rfl
    | true =>
      refine wF rfl ?_
      obtain ⟨i, rfl, _, hi⟩ := cntOk_get (lo := 0) hc1
      obtain ⟨j, rfl, _, hj⟩ := cntOk_get (lo := 0) hc2
      have w1 := wf.w1
      have h1 := wf.h1
      have hi' : i < S.high := by omega
      have hj' : j < S.wide := by omega
      obtain ⟨r, hr, e, hm, hrow, _⟩ := row_of A hi'
      walk_at "r"
      refine x_rowIx A W hr ?_
      walk_at "r"
      refine x_cells RR W hr ?_
      walk_at "r"
      have hlr : r.vals.length = S.wide := by rw [one_in (A.vals r hm), row_w A hm]
      refine g_ixL (sq_of (cl_at W hr)) (by omega) ?_
      refine kk i j rfl rfl hi' hj' _ ?_
      have hd := dpAll_get (A.vals r hm) j (by rw [List.length_map, row_w A hm]; exact hj')
      rw [getD_map (d := blankCell) (by rw [row_w A hm]; exact hj')] at hd
      rw [hrow]; exact hd
end
end Ss
/-! ## Screens: what holds of what they show -/
namespace Ss
open PySem PySem.Spec PyProof.Rows L2
def sgOk (n : Nat) : Prop := isSign n = true ∧ n ≠ 10
def penOk (p : Pen) : Prop := p.1 ≤ 7 ∧ p.2.1 ≤ 7 ∧ p.2.2 ≤ 3
def Cell.Ok (x : Cell) : Prop := sgOk x.sign ∧ penOk x.pen
def PRow.Ok (p : PRow) : Prop := ∀ x ∈ p.cells, x.Ok
def Tk.SgOk : Tk → Prop
  | .sign n => sgOk n
  | _ => True
theorem plainPen_ok : penOk plainPen := ⟨Nat.zero_le _, Nat.zero_le _, Nat.zero_le _⟩
theorem blank_ok : blankCell.Ok := ⟨⟨rfl, by decide⟩, plainPen_ok⟩
theorem blankRow_ok (w : Nat) : (blankRow w).Ok := fun x hx => by
  rw [(List.mem_replicate.mp hx).2]; exact blank_ok
structure Scr.Ok (S : Scr) : Prop where
  rows : ∀ p ∈ S.rows, p.Ok
  past : ∀ p ∈ S.past, p.Ok
  pen : penOk S.pen
  pb : penOk S.putBy.2.2
  last : ∀ n, S.last = some n → sgOk n
  tb : S.top < S.bottom
  full : S.full = true → S.column = S.wide - 1
  h1 : 2 ≤ S.high
namespace Scr
variable {S : Scr}
theorem rowAt_ok (h : S.Ok) (i : Nat) : (S.rowAt i).Ok := by
  unfold rowAt
  by_cases hi : i < S.rows.length
  · exact h.rows _ (getD_mem hi)
  · rw [List.getD_eq_getElem?_getD, List.getElem?_eq_none (by omega)]
    exact fun x hx => (nomatch hx)
theorem setRow_ok (h : S.Ok) (i : Nat) {p : PRow} (hp : p.Ok) : (S.setRow i p).Ok :=
  ⟨fun q hq => by
    rcases List.mem_or_eq_of_mem_set hq with hq | rfl
    · exact h.rows q hq
    · exact hp, h.past, h.pen, h.pb, h.last, h.tb, h.full, h.h1⟩
theorem setGoes_ok (h : S.Ok) (i : Nat) (b : Bool) : (S.setGoes i b).Ok := setRow_ok h i (rowAt_ok h i)
theorem stand_ok (h : S.Ok) (r k : Int) : (S.stand r k).Ok := ⟨h.rows, h.past, h.pen, h.pb, h.last, h.tb, fun z => (nomatch z), h.h1⟩
theorem cutOff_ok (h : S.Ok) (t : Nat) : (S.cutOff t).Ok := by
  unfold cutOff
  split
  · exact setGoes_ok (setGoes_ok h _ _) _ _
  · exact setGoes_ok h _ _
theorem rep_ok {n w : Nat} {p : PRow} (hp : p ∈ List.replicate n (blankRow w)) : p.Ok := by
  rw [(List.mem_replicate.mp hp).2]; exact blankRow_ok w
theorem begin_ok (h1 : 2 ≤ S.high) (hp : ∀ p ∈ S.past, p.Ok) : S.begin.Ok :=
  ⟨fun p hp => rep_ok hp, hp, plainPen_ok, plainPen_ok, fun n z => (nomatch z), by show 0 < S.high - 1; omega, fun z => (nomatch z), h1⟩
theorem rolled_ok (h : S.Ok) (t n : Nat) : (S.rolled t n).Ok := by
  refine ⟨fun p hp => ?_, fun p hp => ?_, h.pen, h.pb, h.last, h.tb, h.full, h.h1⟩
  · rcases List.mem_append.mp hp with hp | hp
    · rcases List.mem_append.mp hp with hp | hp
      · rcases List.mem_append.mp hp with hp | hp
        · exact h.rows p (List.mem_of_mem_take hp)
        · exact h.rows p (List.mem_of_mem_drop (List.mem_of_mem_take hp))
      · exact rep_ok hp
    · exact h.rows p (List.mem_of_mem_drop hp)
  · have hp' : p ∈ (if t = 0 then (S.past ++ S.rows.take n).drop (S.past.length + n - S.most) else S.past) := hp
    split at hp'
    · rcases List.mem_append.mp (List.mem_of_mem_drop hp') with hp | hp
      · exact h.past p hp
      · exact h.rows p (List.mem_of_mem_take hp)
    · exact h.past p hp'
theorem roll_ok (h : S.Ok) (t n : Nat) : (S.roll t n).Ok := cutOff_ok (rolled_ok h _ _) _
theorem rolledDown_ok (h : S.Ok) (t n : Nat) : (S.rolledDown t n).Ok := by
  refine ⟨fun p hp => ?_, h.past, h.pen, h.pb, h.last, h.tb, h.full, h.h1⟩
  rcases List.mem_append.mp hp with hp | hp
  · rcases List.mem_append.mp hp with hp | hp
    · rcases List.mem_append.mp hp with hp | hp
      · exact h.rows p (List.mem_of_mem_take hp)
      · exact rep_ok hp
    · exact h.rows p (List.mem_of_mem_drop (List.mem_of_mem_take hp))
  · exact h.rows p (List.mem_of_mem_drop hp)
theorem rollDown_ok (h : S.Ok) (t n : Nat) : (S.rollDown t n).Ok := cutOff_ok (rolledDown_ok h _ _) _
theorem down_ok (h : S.Ok) : S.down.Ok := by
  unfold down
  split
  · exact roll_ok h _ _
  · split
    · exact ⟨h.rows, h.past, h.pen, h.pb, h.last, h.tb, h.full, h.h1⟩
    · exact h
theorem up_ok (h : S.Ok) : S.up.Ok := by
  unfold up
  split
  · exact rollDown_ok h _ _
  · split
    · exact ⟨h.rows, h.past, h.pen, h.pb, h.last, h.tb, h.full, h.h1⟩
    · exact h
theorem setCells_ok (h : S.Ok) {l : List Cell} (hl : ∀ x ∈ l, x.Ok) : (S.setCells l).Ok := setRow_ok h _ hl
theorem wrap_ok (h : S.Ok) : S.wrap.Ok := by
  unfold wrap
  split
  · exact stand_ok (down_ok (setGoes_ok h _ _)) _ _
  · exact h
theorem wrap_full (S : Scr) : S.wrap.full = false := by
  unfold wrap
  split
  · rfl
  · rename_i h; simpa using h
theorem type1_ok (h : S.Ok) (hf : S.full = false) {n : Nat} (hn : sgOk n) : (S.type1 n).Ok := by
  have h1 : (S.setCells ((S.rowAt S.row).cells.set S.column ⟨n, S.pen⟩)).Ok := setCells_ok h fun x hx => by
    rcases List.mem_or_eq_of_mem_set hx with hx | rfl
    · exact rowAt_ok h _ x hx
    · exact ⟨hn, h.pen⟩
  have h2 : ∀ m, some n = some m → sgOk m := fun m e => by cases e; exact hn
  unfold type1 next
  split
  · rename_i hc
    exact ⟨h1.rows, h1.past, h1.pen, h1.pb, h2, h1.tb, fun _ => hc, h1.h1⟩
  · exact ⟨h1.rows, h1.past, h1.pen, h1.pb, h2, h1.tb, fun z => absurd (hf.symm.trans z) (by decide), h1.h1⟩
theorem put_ok (h : S.Ok) {n : Nat} (hn : sgOk n) : (S.put n).Ok := type1_ok (wrap_ok h) (wrap_full S) hn
theorem repc_ok {n : Nat} {x : Cell} (hx : x ∈ List.replicate n blankCell) : x.Ok := by
  rw [(List.mem_replicate.mp hx).2]; exact blank_ok
theorem nofull_ok (h : S.Ok) : ({ S with full := false } : Scr).Ok := ⟨h.rows, h.past, h.pen, h.pb, h.last, h.tb, fun z => (nomatch z), h.h1⟩
theorem erase_ok (h : S.Ok) (w : Nat) : (S.erase w).Ok := by
  have hr := rowAt_ok h S.row
  have h1 : (if w = 101 then S.setCells ((S.rowAt S.row).cells.take S.column ++ List.replicate (S.wide - S.column) blankCell)
    else if w = 98 then S.setCells (List.replicate (S.column + 1) blankCell ++ (S.rowAt S.row).cells.drop (S.column + 1))
    else if w = 107 then S.setCells (List.replicate S.wide blankCell)
    else { S with rows := List.replicate S.high (blankRow S.wide) }).Ok := by
    split
    · exact setCells_ok h fun x hx => by
        rcases List.mem_append.mp hx with hx | hx
        · exact hr x (List.mem_of_mem_take hx)
        · exact repc_ok hx
    · split
      · exact setCells_ok h fun x hx => by
          rcases List.mem_append.mp hx with hx | hx
          · exact repc_ok hx
          · exact hr x (List.mem_of_mem_drop hx)
      · split
        · exact setCells_ok h fun x hx => repc_ok hx
        · exact ⟨fun p hp => rep_ok hp, h.past, h.pen, h.pb, h.last, h.tb, h.full, h.h1⟩
  have e : S.erase w = (let S1 := (if w = 101 then S.setCells ((S.rowAt S.row).cells.take S.column ++ List.replicate (S.wide - S.column) blankCell)
    else if w = 98 then S.setCells (List.replicate (S.column + 1) blankCell ++ (S.rowAt S.row).cells.drop (S.column + 1))
    else if w = 107 then S.setCells (List.replicate S.wide blankCell)
    else { S with rows := List.replicate S.high (blankRow S.wide) })
    { (if w = 98 then S1 else S1.setGoes S1.row false) with full := false }) := rfl
  rw [e]
  generalize (if w = 101 then S.setCells ((S.rowAt S.row).cells.take S.column ++ List.replicate (S.wide - S.column) blankCell)
    else if w = 98 then S.setCells (List.replicate (S.column + 1) blankCell ++ (S.rowAt S.row).cells.drop (S.column + 1))
    else if w = 107 then S.setCells (List.replicate S.wide blankCell)
    else { S with rows := List.replicate S.high (blankRow S.wide) }) = S1 at h1
  dsimp only
  refine nofull_ok ?_
  split
  · exact h1
  · exact setGoes_ok h1 _ _
theorem small_ok (h : S.Ok) (w : Nat) : (S.small w).Ok := by
  unfold small
  by_cases c1 : w = 117
  · rw [if_pos c1]; exact stand_ok h _ _
  rw [if_neg c1]
  by_cases c2 : w = 100
  · rw [if_pos c2]; exact stand_ok h _ _
  rw [if_neg c2]
  by_cases c3 : w = 108
  · rw [if_pos c3]; exact stand_ok h _ _
  rw [if_neg c3]
  by_cases c4 : w = 114
  · rw [if_pos c4]; exact stand_ok h _ _
  rw [if_neg c4]
  by_cases c5 : w = 104
  · rw [if_pos c5]; exact stand_ok h _ _
  rw [if_neg c5]
  by_cases c6 : w = 110
  · rw [if_pos c6]; exact stand_ok (down_ok h) _ _
  rw [if_neg c6]
  by_cases c7 : w = 112
  · rw [if_pos c7]; exact stand_ok (up_ok h) _ _
  rw [if_neg c7]
  by_cases c8 : w = 101 ∨ w = 98 ∨ w = 107 ∨ w = 99
  · rw [if_pos c8]; exact erase_ok h _
  rw [if_neg c8]
  by_cases c9 : w = 115
  · rw [if_pos c9]; exact ⟨h.rows, h.past, h.pen, h.pen, h.last, h.tb, h.full, h.h1⟩
  rw [if_neg c9]
  by_cases c10 : w = 116
  · rw [if_pos c10]
    have h2 := stand_ok h S.putBy.1 S.putBy.2.1
    exact ⟨h2.rows, h2.past, h.pb, h2.pb, h2.last, h2.tb, h2.full, h2.h1⟩
  rw [if_neg c10]
  by_cases c11 : w = 122
  · rw [if_pos c11]; exact begin_ok h.h1 h.past
  rw [if_neg c11]
  exact h
theorem takeRows_ok (h : S.Ok) (n : Nat) : (S.takeRows n).Ok :=
  have h1 := roll_ok h S.row n
  ⟨h1.rows, h.past, h1.pen, h1.pb, h1.last, h1.tb, h1.full, h1.h1⟩
theorem shift_ok (h : S.Ok) (w many : Nat) : (S.shift w many).Ok := by
  have hr := rowAt_ok h S.row
  unfold shift
  dsimp only
  refine nofull_ok (setGoes_ok (setCells_ok h fun x hx => ?_) _ _)
  split at hx
  · rcases List.mem_append.mp hx with hx | hx
    · rcases List.mem_append.mp hx with hx | hx
      · exact hr x (List.mem_of_mem_take hx)
      · exact hr x (List.mem_of_mem_drop (List.mem_of_mem_drop hx))
    · exact repc_ok hx
  · rcases List.mem_append.mp hx with hx | hx
    · rcases List.mem_append.mp hx with hx | hx
      · exact hr x (List.mem_of_mem_take hx)
      · exact repc_ok hx
    · exact hr x (List.mem_of_mem_drop (List.mem_of_mem_take hx))
theorem putMany_ok {n : Nat} (hn : sgOk n) : ∀ (k : Nat) {S : Scr}, S.Ok → (putMany n k S).Ok
  | 0, _, h => h
  | k + 1, _, h => putMany_ok hn k (put_ok h hn)
theorem one_ok (h : S.Ok) (w n : Nat) : (S.one w n).Ok := by
  unfold one
  by_cases c1 : w = 67
  · rw [if_pos c1]
    split
    · rename_i hn; exact ⟨h.rows, h.past, ⟨hn, h.pen.2.1, h.pen.2.2⟩, h.pb, h.last, h.tb, h.full, h.h1⟩
    · exact h
  rw [if_neg c1]
  by_cases c2 : w = 66
  · rw [if_pos c2]
    split
    · rename_i hn; exact ⟨h.rows, h.past, ⟨h.pen.1, hn, h.pen.2.2⟩, h.pb, h.last, h.tb, h.full, h.h1⟩
    · exact h
  rw [if_neg c2]
  by_cases c3 : w = 77
  · rw [if_pos c3]
    split
    · rename_i hn; exact ⟨h.rows, h.past, ⟨h.pen.1, h.pen.2.1, hn⟩, h.pb, h.last, h.tb, h.full, h.h1⟩
    · exact h
  rw [if_neg c3]
  by_cases c4 : w = 88 ∨ w = 73
  · rw [if_pos c4]; exact shift_ok h _ _
  rw [if_neg c4]
  by_cases c5 : (w = 68 ∨ w = 78) ∧ S.top ≤ S.row ∧ S.row ≤ S.bottom
  · rw [if_pos c5]
    dsimp only
    split
    · exact stand_ok (takeRows_ok h _) _ _
    · exact stand_ok (rollDown_ok h _ _) _ _
  rw [if_neg c5]
  by_cases c6 : w = 74
  · rw [if_pos c6]
    split
    · rename_i l hl; exact putMany_ok (h.last l hl) _ h
    · exact h
  rw [if_neg c6]
  exact h
theorem great_ok (h : S.Ok) (w : Nat) (ns : List Nat) : (S.great w ns).Ok := by
  unfold great
  split
  · rename_i a b
    split
    · exact stand_ok h _ _
    · split
      · split
        · rename_i hab
          exact stand_ok (S := { S with top := a, bottom := b }) ⟨h.rows, h.past, h.pen, h.pb, h.last, hab.1, h.full, h.h1⟩ _ _
        · exact h
      · exact h
  · exact one_ok h _ _
  · exact h
theorem act_ok (h : S.Ok) {t : Tk} (ht : t.SgOk) : (S.act t).Ok := by
  cases t with
  | sign n => exact put_ok h ht
  | fin => exact stand_ok (down_ok h) _ _
  | act w ns =>
    show (if isSmall w then S.small w else S.great w ns).Ok
    split
    · exact small_ok h w
    · exact great_ok h w ns
theorem acts_ok : ∀ {ts : List Tk} {S : Scr}, S.Ok → (∀ t ∈ ts, t.SgOk) → (S.acts ts).Ok
  | [], _, h, _ => h
  | t :: ts, S, h, ht => acts_ok (ts := ts) (S := S.act t) (act_ok h (ht t List.mem_cons_self)) fun u hu => ht u (List.mem_cons_of_mem _ hu)
end Scr
theorem step_sg {p q : Pre} {n : Nat} {ts : List Tk} (e : p.step n = some (q, ts)) : ∀ t ∈ ts, t.SgOk := by
  have h0 : ∀ t ∈ ([] : List Tk), t.SgOk := fun t ht => (nomatch ht)
  cases p with
  | no => cases e
  | hat =>
    unfold Pre.step at e
    dsimp only at e
    split at e
    · cases e; intro t ht; rw [List.mem_singleton.mp ht]; exact ⟨rfl, by decide⟩
    · split at e
      · cases e; intro t ht; rw [List.mem_singleton.mp ht]; trivial
      · split at e
        · cases e; exact h0
        · cases e
  | cap g =>
    unfold Pre.step at e
    dsimp only at e
    split at e
    · cases e; exact h0
    · cases e
  | op g ps la =>
    unfold Pre.step at e
    dsimp only at e
    split at e
    · split at e
      · cases e; exact h0
      · cases e
    · split at e
      · split at e
        · cases e; exact h0
        · cases e
      · split at e
        · cases e; intro t ht; rw [List.mem_singleton.mp ht]; trivial
        · cases e
theorem plain_sg {n : Nat} (h : isSign n = true) : ∀ t ∈ (plain n).2, t.SgOk := by
  unfold plain
  split
  · exact fun t ht => (nomatch ht)
  · split
    · intro t ht; rw [List.mem_singleton.mp ht]; trivial
    · rename_i h10; intro t ht; rw [List.mem_singleton.mp ht]; exact ⟨h, h10⟩
theorem read_sg (r : Rdr) {n : Nat} (h : isSign n = true) : ∀ t ∈ (r.read n).2, t.SgOk := by
  unfold Rdr.read
  split
  · exact plain_sg h
  · split
    · rename_i p ts e; exact step_sg e
    · exact plain_sg h
theorem feed_sg : ∀ {l : List Nat} (r : Rdr), (∀ x ∈ l, isSign x = true) → ∀ t ∈ (r.feed l).2, t.SgOk
  | [], _, _ => fun t ht => (nomatch ht)
  | n :: l, r, h => fun t ht => by
    have ht' : t ∈ (r.read n).2 ++ ((r.read n).1.feed l).2 := ht
    rcases List.mem_append.mp ht' with h1 | h1
    · exact read_sg r (h n List.mem_cons_self) t h1
    · exact feed_sg (r.read n).1 (fun x hx => h x (List.mem_cons_of_mem _ hx)) t h1
namespace Scr
/-! ### the reader beside -/
def wr (S : Scr) (r : Rdr) : Scr := { S with rd := r }
variable (S : Scr) (r : Rdr)
theorem ite_wr {p : Prop} [Decidable p] (A B : Scr) : (if p then A else B).wr r = if p then A.wr r else B.wr r := by split <;> rfl
theorem setRow_wr (i : Nat) (p : PRow) : (S.wr r).setRow i p = (S.setRow i p).wr r := rfl
theorem setGoes_wr (i : Nat) (b : Bool) : (S.wr r).setGoes i b = (S.setGoes i b).wr r := rfl
theorem stand_wr (a b : Int) : (S.wr r).stand a b = (S.stand a b).wr r := rfl
theorem cutOff_wr (t : Nat) : (S.wr r).cutOff t = (S.cutOff t).wr r := by
  by_cases h : 1 ≤ t
  · unfold cutOff; rw [if_pos h, if_pos h]; rfl
  · unfold cutOff; rw [if_neg h, if_neg h]; rfl
theorem roll_wr (t n : Nat) : (S.wr r).roll t n = (S.roll t n).wr r := cutOff_wr (S.rolled t _) r t
theorem rollDown_wr (t n : Nat) : (S.wr r).rollDown t n = (S.rollDown t n).wr r := cutOff_wr (S.rolledDown t _) r t
theorem down_wr : (S.wr r).down = S.down.wr r := by
  unfold down
  rw [ite_wr, ite_wr, ← roll_wr]; rfl
theorem up_wr : (S.wr r).up = S.up.wr r := by
  unfold up
  rw [ite_wr, ite_wr, ← rollDown_wr]; rfl
theorem wrap_wr : (S.wr r).wrap = S.wrap.wr r := by
  unfold wrap
  rw [ite_wr]
  dsimp only
  have e : ((S.wr r).setGoes (S.wr r).row (decide ((S.wr r).row = (S.wr r).bottom) || decide ((S.wr r).row < (S.wr r).high - 1))).down = ((S.setGoes S.row (decide (S.row = S.bottom) || decide (S.row < S.high - 1))).down).wr r := down_wr (S.setGoes S.row _) r
  rw [e]; rfl
theorem type1_wr (n : Nat) : (S.wr r).type1 n = (S.type1 n).wr r := by
  unfold type1 next
  rw [ite_wr]; rfl
theorem put_wr (n : Nat) : (S.wr r).put n = (S.put n).wr r := by
  unfold put
  rw [wrap_wr, type1_wr]
theorem erase_wr (w : Nat) : (S.wr r).erase w = (S.erase w).wr r := by
  unfold erase
  dsimp only
  by_cases h1 : w = 101
  · simp only [if_pos h1]
    by_cases h : w = 98
    · simp only [if_pos h]; rfl
    · simp only [if_neg h]; rfl
  simp only [if_neg h1]
  by_cases h2 : w = 98
  · simp only [if_pos h2]; rfl
  simp only [if_neg h2]
  by_cases h3 : w = 107
  · simp only [if_pos h3]; rfl
  simp only [if_neg h3]; rfl
theorem small_wr (w : Nat) : (S.wr r).small w = (S.small w).wr r := by
  unfold small
  simp only [ite_wr]
  rw [down_wr, up_wr, erase_wr]; rfl
theorem takeRows_wr (n : Nat) : (S.wr r).takeRows n = (S.takeRows n).wr r := by
  unfold takeRows
  show { (S.wr r).roll S.row n with past := S.past } = _
  rw [roll_wr]; rfl
theorem shift_wr (w m : Nat) : (S.wr r).shift w m = (S.shift w m).wr r := rfl
theorem putMany_wr (n : Nat) : ∀ (k : Nat) (S : Scr), putMany n k (S.wr r) = (putMany n k S).wr r
  | 0, _ => rfl
  | k + 1, S => by
    show putMany n k ((S.wr r).put n) = (putMany n k (S.put n)).wr r
    rw [put_wr, putMany_wr n k]
theorem one_wr (w n : Nat) : (S.wr r).one w n = (S.one w n).wr r := by
  unfold one
  by_cases c1 : w = 67
  · rw [if_pos c1, if_pos c1, ite_wr]; rfl
  rw [if_neg c1, if_neg c1]
  by_cases c2 : w = 66
  · rw [if_pos c2, if_pos c2, ite_wr]; rfl
  rw [if_neg c2, if_neg c2]
  by_cases c3 : w = 77
  · rw [if_pos c3, if_pos c3, ite_wr]; rfl
  rw [if_neg c3, if_neg c3]
  by_cases c4 : w = 88 ∨ w = 73
  · rw [if_pos c4, if_pos c4]; rfl
  rw [if_neg c4, if_neg c4]
  by_cases c5 : (w = 68 ∨ w = 78) ∧ S.top ≤ S.row ∧ S.row ≤ S.bottom
  · have c5' : (w = 68 ∨ w = 78) ∧ (S.wr r).top ≤ (S.wr r).row ∧ (S.wr r).row ≤ (S.wr r).bottom := c5
    rw [if_pos c5, if_pos c5']
    dsimp only
    have e : (if w = 68 then (S.wr r).takeRows n else (S.wr r).rollDown (S.wr r).row n) = (if w = 68 then S.takeRows n else S.rollDown S.row n).wr r := by
      rw [ite_wr, ← takeRows_wr, ← rollDown_wr]; rfl
    rw [e]; rfl
  have c5' : ¬ ((w = 68 ∨ w = 78) ∧ (S.wr r).top ≤ (S.wr r).row ∧ (S.wr r).row ≤ (S.wr r).bottom) := c5
  rw [if_neg c5, if_neg c5']
  by_cases c6 : w = 74
  · rw [if_pos c6, if_pos c6]
    have e : (S.wr r).last = S.last := rfl
    rw [e]
    cases hl : S.last with
    | none => rfl
    | some l => exact putMany_wr r l _ S
  rw [if_neg c6, if_neg c6]
theorem great_wr (w : Nat) (ns : List Nat) : (S.wr r).great w ns = (S.great w ns).wr r := by
  unfold great
  split
  · rw [ite_wr, ite_wr, ite_wr]; rfl
  · exact one_wr S r _ _
  · rfl
theorem act_wr (t : Tk) : (S.wr r).act t = (S.act t).wr r := by
  cases t with
  | sign n => exact put_wr S r n
  | fin =>
    show (S.wr r).down.stand (S.wr r).down.row 0 = _
    rw [down_wr]; rfl
  | act w ns =>
    show (if isSmall w then (S.wr r).small w else (S.wr r).great w ns) = (if isSmall w then S.small w else S.great w ns).wr r
    rw [ite_wr, small_wr, great_wr]
theorem acts_wr (r : Rdr) : ∀ (ts : List Tk) (S : Scr), (S.wr r).acts ts = (S.acts ts).wr r
  | [], _ => rfl
  | t :: ts, S => by
    show ((S.wr r).act t).acts ts = ((S.act t).acts ts).wr r
    rw [act_wr, acts_wr r ts]
theorem acts_rd (ts : List Tk) : (S.acts ts).rd = S.rd := by
  have h : S.acts ts = (S.acts ts).wr S.rd := acts_wr S.rd ts S
  rw [h]; rfl
theorem acts_app (a b : List Tk) : S.acts (a ++ b) = (S.acts a).acts b := by
  unfold acts
  rw [List.foldl_append]
theorem acts_cons (t : Tk) (b : List Tk) : S.acts (t :: b) = (S.act t).acts b := rfl
theorem fed_eq (l : List Nat) : S.fed l = (S.acts (S.rd.feed l).2).wr (S.rd.feed l).1 := acts_wr _ _ S
theorem fed_rd (l : List Nat) : (S.fed l).rd = (S.rd.feed l).1 := by rw [fed_eq]; rfl
theorem fed_app (l m : List Nat) : S.fed (l ++ m) = (S.fed l).fed m := by
  rw [fed_eq (S.fed l), fed_rd, fed_eq S l, fed_eq S (l ++ m), acts_wr, feed_app]
  dsimp only
  rw [acts_app]; rfl
theorem fed_nil : S.fed [] = S := rfl
/-- a reader that has begun nothing: its text is done -/
theorem fed_text {k : Nat} {ts : List Tk} (h : S.rd = ⟨.no, k⟩) (hf : Rdr.feed ⟨.no, k⟩ (lawText ts) = (⟨.no, k⟩, ts)) : S.fed (lawText ts) = S.acts ts := by
  rw [fed_eq, h, hf]
  show (S.acts ts).wr ⟨.no, k⟩ = _
  rw [← h, ← acts_rd S ts]; rfl
theorem fed_ok {S : Scr} (h : S.Ok) {l : List Nat} (hl : ∀ x ∈ l, isSign x = true) : (S.fed l).Ok := by
  rw [fed_eq]
  have z := acts_ok h (feed_sg S.rd hl)
  exact ⟨z.rows, z.past, z.pen, z.pb, z.last, z.tb, z.full, z.h1⟩
theorem new_ok {w h m : Nat} (hh : 2 ≤ h) : (Scr.new w h m).Ok := begin_ok hh fun p hp => (nomatch hp)
/-! ### sizes stay -/
def dim (S : Scr) : Nat × Nat × Nat := (S.wide, S.high, S.most)
theorem ite_dim {p : Prop} [Decidable p] {A B : Scr} {d : Nat × Nat × Nat} (h1 : A.dim = d) (h2 : B.dim = d) : (if p then A else B).dim = d := by split <;> assumption
theorem cutOff_dim (t : Nat) : (S.cutOff t).dim = S.dim := by unfold cutOff; split <;> rfl
theorem roll_dim (t n : Nat) : (S.roll t n).dim = S.dim := cutOff_dim (S.rolled t _) t
theorem rollDown_dim (t n : Nat) : (S.rollDown t n).dim = S.dim := cutOff_dim (S.rolledDown t _) t
theorem down_dim : S.down.dim = S.dim := ite_dim (roll_dim S _ _) (ite_dim rfl rfl)
theorem up_dim : S.up.dim = S.dim := ite_dim (rollDown_dim S _ _) (ite_dim rfl rfl)
theorem wrap_dim : S.wrap.dim = S.dim := ite_dim (down_dim (S.setGoes S.row _)) rfl
theorem type1_dim (n : Nat) : (S.type1 n).dim = S.dim := ite_dim rfl rfl
theorem put_dim (n : Nat) : (S.put n).dim = S.dim := (type1_dim S.wrap n).trans (wrap_dim S)
theorem erase_dim (w : Nat) : (S.erase w).dim = S.dim := by
  have h1 : (if w = 101 then S.setCells ((S.rowAt S.row).cells.take S.column ++ List.replicate (S.wide - S.column) blankCell)
    else if w = 98 then S.setCells (List.replicate (S.column + 1) blankCell ++ (S.rowAt S.row).cells.drop (S.column + 1))
    else if w = 107 then S.setCells (List.replicate S.wide blankCell)
    else { S with rows := List.replicate S.high (blankRow S.wide) }).dim = S.dim := ite_dim rfl (ite_dim rfl (ite_dim rfl rfl))
  have e : S.erase w = (let S1 := (if w = 101 then S.setCells ((S.rowAt S.row).cells.take S.column ++ List.replicate (S.wide - S.column) blankCell)
    else if w = 98 then S.setCells (List.replicate (S.column + 1) blankCell ++ (S.rowAt S.row).cells.drop (S.column + 1))
    else if w = 107 then S.setCells (List.replicate S.wide blankCell)
    else { S with rows := List.replicate S.high (blankRow S.wide) })
    { (if w = 98 then S1 else S1.setGoes S1.row false) with full := false }) := rfl
  rw [e]
  generalize (if w = 101 then S.setCells ((S.rowAt S.row).cells.take S.column ++ List.replicate (S.wide - S.column) blankCell)
    else if w = 98 then S.setCells (List.replicate (S.column + 1) blankCell ++ (S.rowAt S.row).cells.drop (S.column + 1))
    else if w = 107 then S.setCells (List.replicate S.wide blankCell)
    else { S with rows := List.replicate S.high (blankRow S.wide) }) = S1 at h1
  dsimp only
  split
  · exact h1
  · exact h1
theorem small_dim (w : Nat) : (S.small w).dim = S.dim :=
  ite_dim rfl (ite_dim rfl (ite_dim rfl (ite_dim rfl (ite_dim rfl (ite_dim (down_dim S) (ite_dim (up_dim S) (ite_dim (erase_dim S w) (ite_dim rfl (ite_dim rfl (ite_dim rfl rfl))))))))))
theorem putMany_dim (n : Nat) : ∀ (k : Nat) (S : Scr), (putMany n k S).dim = S.dim
  | 0, _ => rfl
  | k + 1, S => (putMany_dim n k (S.put n)).trans (put_dim S n)
theorem takeRows_dim (n : Nat) : (S.takeRows n).dim = S.dim := roll_dim S S.row n
theorem one_dim (w n : Nat) : (S.one w n).dim = S.dim := by
  unfold one
  refine ite_dim (ite_dim rfl rfl) (ite_dim (ite_dim rfl rfl) (ite_dim (ite_dim rfl rfl) (ite_dim rfl (ite_dim ?_ (ite_dim ?_ rfl)))))
  · dsimp only
    split
    · exact takeRows_dim S n
    · exact rollDown_dim S _ _
  · split
    · exact putMany_dim _ _ S
    · rfl
theorem great_dim (w : Nat) (ns : List Nat) : (S.great w ns).dim = S.dim := by
  unfold great
  split
  · exact ite_dim rfl (ite_dim (ite_dim rfl rfl) rfl)
  · exact one_dim S _ _
  · rfl
theorem act_dim (t : Tk) : (S.act t).dim = S.dim := by
  cases t with
  | sign n => exact put_dim S n
  | fin => exact down_dim S
  | act w ns => exact ite_dim (small_dim S w) (great_dim S w ns)
theorem acts_dim : ∀ (ts : List Tk) (S : Scr), (S.acts ts).dim = S.dim
  | [], _ => rfl
  | t :: ts, S => (acts_dim ts (S.act t)).trans (act_dim S t)
theorem fed_dim (l : List Nat) : (S.fed l).dim = S.dim := acts_dim _ { S with rd := (S.rd.feed l).1 }
theorem dim_wide {S S' : Scr} (h : S.dim = S'.dim) : S.wide = S'.wide := congrArg (·.1) h
theorem dim_high {S S' : Scr} (h : S.dim = S'.dim) : S.high = S'.high := congrArg (·.2.1) h
theorem dim_most {S S' : Scr} (h : S.dim = S'.dim) : S.most = S'.most := congrArg (·.2.2) h
end Scr
/-! ### what is told can be compared -/
theorem sg_lt {n : Nat} (h : sgOk n) : n < 1114112 := by
  have := h.1
  unfold isSign at this
  simp at this
  omega
theorem penData_sh (p : Pen) : Sh 1 (penData p) := .tup fun d hd => by
  rcases List.mem_cons.mp hd with rfl | hd
  · exact .int
  rcases List.mem_cons.mp hd with rfl | hd
  · exact .int
  rw [List.mem_singleton.mp hd]; exact .int
theorem Cell.Ok.sh {x : Cell} (h : x.Ok) : Sh 2 x.data := .tup fun d hd => by
  rcases List.mem_cons.mp hd with rfl | hd
  · exact .str fun y hy => by rw [List.mem_singleton.mp hy]; exact sg_lt h.1
  rw [List.mem_singleton.mp hd]; exact penData_sh _
theorem cells_sh {l : List Cell} (h : ∀ x ∈ l, x.Ok) : Sh 3 (.list (l.map Cell.data)) := .lst fun d hd => by
  obtain ⟨x, hx, rfl⟩ := List.mem_map.mp hd
  exact (h x hx).sh
theorem pageD_sh {l : List PRow} (h : ∀ p ∈ l, p.Ok) : Sh 4 (.list (l.map fun p => .list (p.cells.map Cell.data))) := .lst fun d hd => by
  obtain ⟨p, hp, rfl⟩ := List.mem_map.mp hd
  exact cells_sh (h p hp)
theorem cursorD_sh (S : Scr) : Sh 1 S.cursorD := .tup fun d hd => by
  rcases List.mem_cons.mp hd with rfl | hd
  · exact .int
  rcases List.mem_cons.mp hd with rfl | hd
  · exact .int
  rw [List.mem_singleton.mp hd]; exact .bl
theorem stateD_sh (S : Scr) : Sh 2 S.stateD := .tup fun d hd => by
  rcases List.mem_cons.mp hd with rfl | hd
  · exact (penData_sh _).mono (by decide)
  rw [List.mem_singleton.mp hd]
  exact .tup fun d hd => by
    rcases List.mem_cons.mp hd with rfl | hd
    · exact .int
    rw [List.mem_singleton.mp hd]; exact .int
end Ss
/-! ## Screens: they stay whole -/
namespace Ss
open PySem PySem.Spec PyProof.Rows L2
namespace Scr
variable {S : Scr}
theorem rowAt_len (w : S.Wf) {i : Nat} (h : i < S.high) : (S.rowAt i).cells.length = S.wide := w.rw _ (getD_mem (by rw [w.rl]; exact h))
theorem setRow_wf (w : S.Wf) (i : Nat) {p : PRow} (hp : i < S.high → p.cells.length = S.wide) : (S.setRow i p).Wf :=
  ⟨w.w1, w.w2, w.h1, w.h2, w.m, by show (S.rows.set i p).length = S.high; rw [List.length_set]; exact w.rl, fun q hq => by
    by_cases hi : i < S.high
    · rcases List.mem_or_eq_of_mem_set hq with hq | rfl
      · exact w.rw q hq
      · exact hp hi
    · have e : S.rows.set i p = S.rows := List.set_eq_of_length_le (by rw [w.rl]; omega)
      have hq' : q ∈ S.rows.set i p := hq
      rw [e] at hq'
      exact w.rw q hq', w.pl, w.pw, w.row, w.column, w.tb, w.bh, w.rd⟩
theorem setGoes_wf (w : S.Wf) (i : Nat) (b : Bool) : (S.setGoes i b).Wf := setRow_wf w i fun h => rowAt_len w h
theorem cutOff_wf (w : S.Wf) (t : Nat) : (S.cutOff t).Wf := by
  unfold cutOff
  split
  · exact setGoes_wf (setGoes_wf w _ _) _ _
  · exact setGoes_wf w _ _
theorem roll_wf (w : S.Wf) {t : Nat} (ht : t ≤ S.bottom) (n : Nat) : (S.roll t n).Wf := cutOff_wf (rolled_wf w ht (Nat.min_le_right _ _)) _
theorem rollDown_wf (w : S.Wf) {t : Nat} (ht : t ≤ S.bottom) (n : Nat) : (S.rollDown t n).Wf := cutOff_wf (rolledDown_wf w ht (Nat.min_le_right _ _)) _
theorem down_wf (w : S.Wf) : S.down.Wf := by
  unfold down
  split
  · exact roll_wf w w.tb _
  · split
    · exact ⟨w.w1, w.w2, w.h1, w.h2, w.m, w.rl, w.rw, w.pl, w.pw, by show S.row + 1 < S.high; omega, w.column, w.tb, w.bh, w.rd⟩
    · exact w
theorem up_wf (w : S.Wf) : S.up.Wf := by
  unfold up
  split
  · exact rollDown_wf w w.tb _
  · split
    · exact ⟨w.w1, w.w2, w.h1, w.h2, w.m, w.rl, w.rw, w.pl, w.pw, by have := w.row; show S.row - 1 < S.high; omega, w.column, w.tb, w.bh, w.rd⟩
    · exact w
theorem wrap_wf (w : S.Wf) : S.wrap.Wf := by
  unfold wrap
  split
  · exact stand_wf (down_wf (setGoes_wf w _ _)) _ _
  · exact w
theorem put_wf (w : S.Wf) (n : Nat) : (S.put n).Wf := type1_wf (wrap_wf w) n
theorem setCells_wf (w : S.Wf) {l : List Cell} (hl : l.length = S.wide) : (S.setCells l).Wf := setRow_wf w _ fun _ => hl
theorem nofull_wf (w : S.Wf) : ({ S with full := false } : Scr).Wf := ⟨w.w1, w.w2, w.h1, w.h2, w.m, w.rl, w.rw, w.pl, w.pw, w.row, w.column, w.tb, w.bh, w.rd⟩
theorem begin_wf (w : S.Wf) : S.begin.Wf :=
  ⟨w.w1, w.w2, w.h1, w.h2, w.m, List.length_replicate, fun p hp => by rw [(List.mem_replicate.mp hp).2]; exact List.length_replicate, w.pl, w.pw, by show 0 < S.high; have := w.h1; omega, by show 0 < S.wide; have := w.w1; omega, Nat.zero_le _, by show S.high - 1 < S.high; have := w.h1; omega, w.rd⟩
theorem new_wf {wd h m : Nat} (hw : 2 ≤ wd ∧ wd ≤ 60) (hh : 2 ≤ h ∧ h ≤ 40) (hm : m ≤ 200) : (Scr.new wd h m).Wf :=
  ⟨hw.1, hw.2, hh.1, hh.2, hm, List.length_replicate, fun p hp => by rw [(List.mem_replicate.mp hp).2]; exact List.length_replicate, Nat.zero_le _, fun p hp => (nomatch hp), by show 0 < h; omega, by show 0 < wd; omega, Nat.zero_le _, by show h - 1 < h; omega, trivial⟩
theorem erase_wf (w : S.Wf) (x : Nat) : (S.erase x).Wf := by
  have hl := rowAt_len w w.row
  have hc := w.column
  have h1 : (if x = 101 then S.setCells ((S.rowAt S.row).cells.take S.column ++ List.replicate (S.wide - S.column) blankCell)
    else if x = 98 then S.setCells (List.replicate (S.column + 1) blankCell ++ (S.rowAt S.row).cells.drop (S.column + 1))
    else if x = 107 then S.setCells (List.replicate S.wide blankCell)
    else { S with rows := List.replicate S.high (blankRow S.wide) }).Wf := by
    split
    · exact setCells_wf w (by rw [List.length_append, List.length_take, List.length_replicate, hl]; omega)
    · split
      · exact setCells_wf w (by rw [List.length_append, List.length_drop, List.length_replicate, hl]; omega)
      · split
        · exact setCells_wf w List.length_replicate
        · exact ⟨w.w1, w.w2, w.h1, w.h2, w.m, List.length_replicate, fun p hp => by rw [(List.mem_replicate.mp hp).2]; exact List.length_replicate, w.pl, w.pw, w.row, w.column, w.tb, w.bh, w.rd⟩
  have e : S.erase x = (let S1 := (if x = 101 then S.setCells ((S.rowAt S.row).cells.take S.column ++ List.replicate (S.wide - S.column) blankCell)
    else if x = 98 then S.setCells (List.replicate (S.column + 1) blankCell ++ (S.rowAt S.row).cells.drop (S.column + 1))
    else if x = 107 then S.setCells (List.replicate S.wide blankCell)
    else { S with rows := List.replicate S.high (blankRow S.wide) })
    { (if x = 98 then S1 else S1.setGoes S1.row false) with full := false }) := rfl
  rw [e]
  generalize (if x = 101 then S.setCells ((S.rowAt S.row).cells.take S.column ++ List.replicate (S.wide - S.column) blankCell)
    else if x = 98 then S.setCells (List.replicate (S.column + 1) blankCell ++ (S.rowAt S.row).cells.drop (S.column + 1))
    else if x = 107 then S.setCells (List.replicate S.wide blankCell)
    else { S with rows := List.replicate S.high (blankRow S.wide) }) = S1 at h1
  dsimp only
  refine nofull_wf ?_
  split
  · exact h1
  · exact setGoes_wf h1 _ _
theorem ite_wf {p : Prop} [Decidable p] {A B : Scr} (h1 : p → A.Wf) (h2 : ¬ p → B.Wf) : (if p then A else B).Wf := by
  by_cases h : p
  · rw [if_pos h]; exact h1 h
  · rw [if_neg h]; exact h2 h
theorem small_wf (w : S.Wf) (x : Nat) : (S.small x).Wf := by
  unfold small
  refine ite_wf (fun _ => stand_wf w _ _) fun _ => ite_wf (fun _ => stand_wf w _ _) fun _ => ite_wf (fun _ => stand_wf w _ _) fun _ => ite_wf (fun _ => stand_wf w _ _) fun _ => ite_wf (fun _ => stand_wf w _ _) fun _ =>
    ite_wf (fun _ => stand_wf (down_wf w) _ _) fun _ => ite_wf (fun _ => stand_wf (up_wf w) _ _) fun _ => ite_wf (fun _ => erase_wf w _) fun _ => ite_wf (fun _ => ?_) fun _ => ite_wf (fun _ => ?_) fun _ => ite_wf (fun _ => begin_wf w) fun _ => w
  · exact ⟨w.w1, w.w2, w.h1, w.h2, w.m, w.rl, w.rw, w.pl, w.pw, w.row, w.column, w.tb, w.bh, w.rd⟩
  · have h := stand_wf w S.putBy.1 S.putBy.2.1
    exact ⟨h.w1, h.w2, h.h1, h.h2, h.m, h.rl, h.rw, h.pl, h.pw, h.row, h.column, h.tb, h.bh, h.rd⟩
theorem takeRows_wf (w : S.Wf) (h : S.row ≤ S.bottom) (n : Nat) : (S.takeRows n).Wf :=
  have h := roll_wf w h n
  have hm : (S.roll S.row n).most = S.most := dim_most (roll_dim S _ _)
  have hw : (S.roll S.row n).wide = S.wide := dim_wide (roll_dim S _ _)
  ⟨h.w1, h.w2, h.h1, h.h2, h.m, h.rl, h.rw, by show S.past.length ≤ (S.roll S.row n).most; rw [hm]; exact w.pl, fun p hp => by show _ = (S.roll S.row n).wide; rw [hw]; exact w.pw p hp, h.row, h.column, h.tb, h.bh, h.rd⟩
theorem shift_wf (w : S.Wf) (x : Nat) {many : Nat} (hm : many ≤ S.wide - S.column) : (S.shift x many).Wf := by
  have hl := rowAt_len w w.row
  have hc := w.column
  unfold shift
  dsimp only
  refine nofull_wf (setGoes_wf (setCells_wf w ?_) _ _)
  split
  · rw [List.length_append, List.length_append, List.length_take, List.length_drop, List.length_drop, List.length_replicate, hl]; omega
  · rw [List.length_append, List.length_append, List.length_take, List.length_take, List.length_drop, List.length_replicate, hl]; omega
theorem putMany_wf (n : Nat) : ∀ (k : Nat) {S : Scr}, S.Wf → (putMany n k S).Wf
  | 0, _, w => w
  | k + 1, _, w => putMany_wf n k (put_wf w n)
theorem pen_wf (w : S.Wf) (p : Pen) : ({ S with pen := p } : Scr).Wf := ⟨w.w1, w.w2, w.h1, w.h2, w.m, w.rl, w.rw, w.pl, w.pw, w.row, w.column, w.tb, w.bh, w.rd⟩
theorem one_wf (w : S.Wf) (x n : Nat) : (S.one x n).Wf := by
  unfold one
  refine ite_wf (fun _ => ite_wf (fun _ => pen_wf w _) fun _ => w) fun _ => ite_wf (fun _ => ite_wf (fun _ => pen_wf w _) fun _ => w) fun _ => ite_wf (fun _ => ite_wf (fun _ => pen_wf w _) fun _ => w) fun _ =>
    ite_wf (fun _ => shift_wf w _ (Nat.min_le_right _ _)) fun _ => ite_wf (fun h => ?_) fun _ => ite_wf (fun _ => ?_) fun _ => w
  · dsimp only
    exact stand_wf (ite_wf (fun _ => takeRows_wf w h.2.2 _) fun _ => rollDown_wf w h.2.2 _) _ _
  · split
    · exact putMany_wf _ _ w
    · exact w
theorem great_wf (w : S.Wf) (x : Nat) (ns : List Nat) : (S.great x ns).Wf := by
  unfold great
  split
  · rename_i a b
    refine ite_wf (fun _ => stand_wf w _ _) fun _ => ite_wf (fun _ => ite_wf (fun h => ?_) fun _ => w) fun _ => w
    exact stand_wf (S := { S with top := a, bottom := b }) ⟨w.w1, w.w2, w.h1, w.h2, w.m, w.rl, w.rw, w.pl, w.pw, w.row, w.column, Nat.le_of_lt h.1, h.2, w.rd⟩ _ _
  · exact one_wf w _ _
  · exact w
theorem act_wf (w : S.Wf) (t : Tk) : (S.act t).Wf := by
  cases t with
  | sign n => exact put_wf w n
  | fin => exact stand_wf (down_wf w) _ _
  | act x ns => exact ite_wf (fun _ => small_wf w x) fun _ => great_wf w x ns
theorem acts_wf : ∀ (ts : List Tk) {S : Scr}, S.Wf → (S.acts ts).Wf
  | [], _, w => w
  | t :: ts, _, w => acts_wf ts (act_wf w t)
end Scr
end Ss
/-! ## What the laws share -/
namespace Ss
open PySem PySem.Spec PyProof.Rows L2
/-- a bound of the script's cells -/
@[irreducible] def bigA : Nat := 2 ^ 1048576
theorem bigA_eq : bigA = 2 ^ 1048576 := by unfold bigA; rfl
theorem add_lt_pow {x y e : Nat} (hx : x < 2 ^ e) (hy : y < 2 ^ 40) (h : 40 ≤ e) : x + y < 2 ^ (e + 1) := by
  have := Nat.pow_le_pow_right (show 0 < 2 by decide) h
  rw [Nat.pow_succ]; omega
theorem cell_big {ns : List Int} {k : Nat} (h : ∀ n ∈ ns, n.natAbs < bigA) (hk : k ≤ 1000) : (cellOf ns k).natAbs < bigB := by
  unfold cellOf
  split
  · refine big_of (k := 60) ?_ (by decide)
    have : ((k : Int) * 7919).natAbs = k * 7919 := by rw [Int.natAbs_mul, Int.natAbs_natCast]; rfl
    rw [this]; omega
  · rename_i hn
    have h1 : (ns.getD (k % ns.length) 0).natAbs < bigA := by
      have hlt : k % ns.length < ns.length := Nat.mod_lt _ (List.length_pos_iff.mpr hn)
      exact h _ (getD_mem hlt)
    have h2 : (((k / ns.length : Nat) : Int) * 104729).natAbs < 2 ^ 40 := by
      have : (((k / ns.length : Nat) : Int) * 104729).natAbs = k / ns.length * 104729 := by rw [Int.natAbs_mul, Int.natAbs_natCast]; rfl
      rw [this]
      have := Nat.div_le_self k ns.length
      omega
    refine Nat.lt_of_le_of_lt (Int.natAbs_add_le _ _) ?_
    rw [bigB_eq]
    have h1 := bigA_eq ▸ h1
    generalize hx : (ns.getD (k % ns.length) 0).natAbs = x at h1
    generalize hy : (((k / ns.length : Nat) : Int) * 104729).natAbs = y at h2
    exact Nat.lt_of_lt_of_le (add_lt_pow h1 h2 (by decide)) (Nat.pow_le_pow_right (by decide) (by decide))
theorem cell_bit {z : Int} (h : Builtin.Int.intBits z ≤ 1048576) : z.natAbs < bigA := by
  rw [bigA_eq]
  unfold Builtin.Int.intBits at h
  by_cases h0 : z = 0
  · subst h0; exact Nat.pow_pos (by decide)
  · rw [if_neg (by simpa using h0)] at h
    exact (Nat.log2_lt (fun e => h0 (Int.natAbs_eq_zero.mp e))).mp (Nat.lt_of_succ_le h)
theorem l_slTo {K : PySem.W.Frag} {H : Hp} {Q : VK} {l : List Nat} {n : Nat} (hl : l.length ≤ 1000000) (h : Q (.str (T (l.take n))) H) : uSl K (.str (T l)) none (some (n : Int)) H Q := l_slX hl (by rw [cutL_to]; exact h)
theorem l_slFrom {K : PySem.W.Frag} {H : Hp} {Q : VK} {l : List Nat} {n : Nat} (hl : l.length ≤ 1000000) (h : Q (.str (T (l.drop n))) H) : uSl K (.str (T l)) (some (n : Int)) none H Q := l_slX hl (by rw [cutL_from]; exact h)
def sp_law (c : Ctx) : Sp := fun vs H Q _ => ∃ (a : Addr) (ns : List Int) (F : Hp), vs = [.ref a] ∧ SqL c.K F a (ns.map V.int) ∧ ns.length ≤ 63 ∧ (∀ n ∈ ns, n.natAbs < bigA) ∧ LamX.Tabs c.tabs F ∧ Hold F [] H ∧ ∀ H', Q (.bl true) H'
theorem okText_of {l : List Nat} (h : ∀ x ∈ l, isSign x = true) (hl : l.length ≤ 4000) : okText (.str (T l)) = true := by
  show (decide ((T l).length ≤ 4000) && (T l).cps.toList.all isSign) = true
  rw [T_len, T_list, decide_eq_true hl, List.all_eq_true.mpr h]; rfl
theorem okText_inv {l : List Nat} (h : okText (.str (T l)) = true) : (∀ x ∈ l, isSign x = true) ∧ l.length ≤ 4000 := by
  have h' : (decide ((T l).length ≤ 4000) && (T l).cps.toList.all isSign) = true := h
  rw [T_len, T_list, Bool.and_eq_true, decide_eq_true_eq, List.all_eq_true] at h'
  exact ⟨h'.2, h'.1⟩
theorem row_signs (m many : Nat) : ∀ x ∈ lawText (lawRow m many), isSign x = true := lawText_signs (row_good m many)
theorem okRow {m many : Nat} (h : many ≤ 100) : okText (.str (T (lawText (lawRow m many)))) = true := okText_of (row_signs m many) (by have := row_text_len m many; omega)
section
variable {c : Ctx} {F H : Hp} {s s' : Addr} {C C' : ScrC} {S S' : Scr} {L M : List (Addr × HO)}
theorem scrL_split : scrL c s C S L = scrL c s C S [] ++ L := by
  show _ :: _ :: _ = _ :: _ :: _
  rw [List.append_nil]; rfl
theorem scrL_app : scrL c s C S L ++ M = scrL c s C S (L ++ M) := by
  show _ :: _ :: ((ownR c C.rows ++ L) ++ M) = _ :: _ :: _
  rw [List.append_assoc]
theorem scrL_swap (W : Hold F (scrL c s C S (scrL c s' C' S' L)) H) : Hold F (scrL c s' C' S' (scrL c s C S L)) H := by
  refine W.perm ?_
  rw [scrL_split, scrL_split (L := L), scrL_split (s := s') (L := scrL c s C S L), scrL_split (s := s) (L := L)]
  exact List.perm_append_comm_assoc _ _ _
theorem scrL_out (x : Addr × HO) : List.Perm (x :: scrL c s C S L) (scrL c s C S (x :: L)) := by
  rw [scrL_split, scrL_split (L := x :: L)]
  exact List.perm_middle.symm
theorem sp_feed_ok {l : List Nat} {Q : VK} {E : XK} (A : ScrAt c F C S) (W : Hold F (scrL c s C S L) H) (ok : okText (.str (T l)) = true) (kk : ScrTo c s F L (S.fed l) Q) : sp_Screen_feed c [.ref s, .str (T l)] H Q E :=
  ⟨s, C, S, _, F, L, rfl, .inl ⟨l, rfl, Nat.le_trans (okText_inv ok).2 (by decide)⟩, A, W, fun l' e _ => by cases T_inj.mp (V.str.inj e); exact kk, fun z => absurd ok (by rw [z]; decide)⟩
end
theorem sizeOk_nat {w h m : Nat} (hw : 2 ≤ w ∧ w ≤ 60) (hh : 2 ≤ h ∧ h ≤ 40) (hm : m ≤ 200) : sizeOk (.int (w : Nat)) (.int (h : Nat)) (.int (m : Nat)) = true := by
  have a1 : cntOk (.int (w : Nat)) 2 60 = true := cntOk_nat (lo := 2) (hi := 60) hw.1 hw.2
  have a2 : cntOk (.int (h : Nat)) 2 40 = true := cntOk_nat (lo := 2) (hi := 40) hh.1 hh.2
  have a3 : cntOk (.int (m : Nat)) 0 200 = true := cntOk_nat (lo := 0) (hi := 200) (Nat.zero_le _) hm
  unfold sizeOk
  rw [a1, a2, a3]; rfl
theorem nat_inj {a b : Nat} (e : V.int (a : Nat) = V.int (b : Nat)) : b = a := by injection e with e; omega
/-- a good screen is made -/
theorem x_newScreen {c : Ctx} {F H : Hp} {L : List (Addr × HO)} {Q : VK} {E : XK} {w h m : Nat} {z : Int} (ez : z = (m : Nat)) (W : Hold F L H) (hw : 2 ≤ w ∧ w ≤ 60) (hh : 2 ≤ h ∧ h ≤ 40) (hm : m ≤ 200)
    (kk : ∀ s C F' H', Same F F' → ScrAt c F' C (Scr.new w h m) → Hold F' (scrL c s C (Scr.new w h m) L) H' → Q (.ref s) H') : aN c.cScreen (sp_Screen_init c) E [.int (w : Nat), .int (h : Nat), .int z] H Q := by
  subst ez
  refine x_an W fun s dx H2 W2 => ?_
  refine ⟨s, dx, _, _, _, F, L, rfl, .nat, .nat, .nat, W2, fun w' h' m' e1 e2 e3 _ _ _ C F3 H3 s3 A3 W3 => ⟨rfl, ?_⟩, fun z => absurd z (by rw [sizeOk_nat hw hh hm]; decide)⟩
  have a1 := nat_inj e1
  have a2 := nat_inj e2
  have a3 := nat_inj e3
  subst a1 a2 a3
  exact kk s C F3 H3 s3 A3 W3
theorem x_par2 {v w : V} {R : V → V → Prop} (h : R v w) : ∃ v' w', [v, w] = [v', w'] ∧ R v' w' := ⟨v, w, rfl, h⟩
theorem two_of {α : Type} {ys : List α} (h : ys.length = 2) : ∃ a b, ys = [a, b] := by
  match ys, h with
  | [a, b], _ => exact ⟨a, b, rfl⟩
theorem rstrip_mem {l : List Nat} {x : Nat} (h : x ∈ rstripL l) : x ∈ l := by
  have h1 : x ∈ l.reverse.dropWhile (· == 32) := List.mem_reverse.mp h
  exact List.mem_reverse.mp ((List.dropWhile_sublist _).subset h1)
theorem texts_sh {l : List PRow} (h : ∀ p ∈ l, p.Ok) : Sh 1 (textsD l) := .lst fun d hd => by
  obtain ⟨p, hp, rfl⟩ := List.mem_map.mp hd
  refine .str fun x hx => ?_
  obtain ⟨y, hy, rfl⟩ := List.mem_map.mp (rstrip_mem hx)
  exact sg_lt (h p hp y hy).1
end Ss
/-! ## Screens: what rolled away beside; texts that are whole -/
namespace Ss
open PySem PySem.Spec PyProof.Rows L2
namespace Scr
def wp (S : Scr) (q : List PRow) : Scr := { S with past := q }
theorem cutOff_wp (S : Scr) (q : List PRow) (t : Nat) : (S.wp q).cutOff t = (S.cutOff t).wp q := by
  by_cases h : 1 ≤ t
  · unfold cutOff; rw [if_pos h, if_pos h]; rfl
  · unfold cutOff; rw [if_neg h, if_neg h]; rfl
theorem roll_wp (S : Scr) (q : List PRow) (t n : Nat) : ∃ q', (S.wp q).roll t n = (S.roll t n).wp q' := ⟨_, cutOff_wp (S.rolled t (min n (S.bottom + 1 - t))) ((S.wp q).rolled t (min n (S.bottom + 1 - t))).past t⟩
theorem rollDown_wp (S : Scr) (q : List PRow) (t n : Nat) : (S.wp q).rollDown t n = (S.rollDown t n).wp q := cutOff_wp (S.rolledDown t _) q t
theorem down_wp (S : Scr) (q : List PRow) : ∃ q', (S.wp q).down = S.down.wp q' := by
  unfold down
  by_cases h : S.row = S.bottom
  · rw [if_pos h, if_pos (show (S.wp q).row = (S.wp q).bottom from h)]; exact roll_wp S q S.top 1
  · rw [if_neg h, if_neg (show ¬ (S.wp q).row = (S.wp q).bottom from h)]
    by_cases h2 : S.row < S.high - 1
    · rw [if_pos h2, if_pos (show (S.wp q).row < (S.wp q).high - 1 from h2)]; exact ⟨q, rfl⟩
    · rw [if_neg h2, if_neg (show ¬ (S.wp q).row < (S.wp q).high - 1 from h2)]; exact ⟨q, rfl⟩
theorem up_wp (S : Scr) (q : List PRow) : (S.wp q).up = S.up.wp q := by
  unfold up
  by_cases h : S.row = S.top
  · rw [if_pos h, if_pos (show (S.wp q).row = (S.wp q).top from h)]; exact rollDown_wp S q S.top 1
  · rw [if_neg h, if_neg (show ¬ (S.wp q).row = (S.wp q).top from h)]
    by_cases h2 : 0 < S.row
    · rw [if_pos h2, if_pos (show 0 < (S.wp q).row from h2)]; rfl
    · rw [if_neg h2, if_neg (show ¬ 0 < (S.wp q).row from h2)]
theorem wrap_wp (S : Scr) (q : List PRow) : ∃ q', (S.wp q).wrap = S.wrap.wp q' := by
  unfold wrap
  by_cases h : S.full = true
  · rw [if_pos h, if_pos (show (S.wp q).full = true from h)]
    dsimp only
    obtain ⟨q', e⟩ := down_wp (S.setGoes S.row (decide (S.row = S.bottom) || decide (S.row < S.high - 1))) q
    have e' : ((S.wp q).setGoes (S.wp q).row (decide ((S.wp q).row = (S.wp q).bottom) || decide ((S.wp q).row < (S.wp q).high - 1))).down = ((S.setGoes S.row (decide (S.row = S.bottom) || decide (S.row < S.high - 1))).down).wp q' := e
    rw [e']; exact ⟨q', rfl⟩
  · rw [if_neg h, if_neg (show ¬ (S.wp q).full = true from h)]; exact ⟨q, rfl⟩
theorem ite_wp1 {p : Prop} [Decidable p] {A B A' B' : Scr} {q : List PRow} (h1 : A' = A.wp q) (h2 : B' = B.wp q) : (if p then A' else B') = (if p then A else B).wp q := by
  by_cases h : p
  · rw [if_pos h, if_pos h]; exact h1
  · rw [if_neg h, if_neg h]; exact h2
theorem type1_wp (S : Scr) (q : List PRow) (n : Nat) : (S.wp q).type1 n = (S.type1 n).wp q := by
  exact ite_wp1 rfl rfl
theorem put_wp (S : Scr) (q : List PRow) (n : Nat) : ∃ q', (S.wp q).put n = (S.put n).wp q' := by
  obtain ⟨q', e⟩ := wrap_wp S q
  unfold put
  rw [e, type1_wp]; exact ⟨q', rfl⟩
theorem erase_wp (S : Scr) (q : List PRow) (w : Nat) : (S.wp q).erase w = (S.erase w).wp q := by
  unfold erase
  dsimp only
  by_cases h1 : w = 101
  · simp only [if_pos h1]
    by_cases h : w = 98
    · simp only [if_pos h]; rfl
    · simp only [if_neg h]; rfl
  simp only [if_neg h1]
  by_cases h2 : w = 98
  · simp only [if_pos h2]; rfl
  simp only [if_neg h2]
  by_cases h3 : w = 107
  · simp only [if_pos h3]; rfl
  simp only [if_neg h3]; rfl
theorem ite_wp {p : Prop} [Decidable p] {A B A' B' : Scr} (h1 : ∃ q', A' = A.wp q') (h2 : ∃ q', B' = B.wp q') : ∃ q', (if p then A' else B') = (if p then A else B).wp q' := by
  by_cases h : p
  · rw [if_pos h, if_pos h]; exact h1
  · rw [if_neg h, if_neg h]; exact h2
theorem small_wp (S : Scr) (q : List PRow) (w : Nat) : ∃ q', (S.wp q).small w = (S.small w).wp q' := by
  obtain ⟨q1, e1⟩ := down_wp S q
  unfold small
  refine ite_wp ⟨q, rfl⟩ (ite_wp ⟨q, rfl⟩ (ite_wp ⟨q, rfl⟩ (ite_wp ⟨q, rfl⟩ (ite_wp ⟨q, rfl⟩ (ite_wp ⟨q1, ?_⟩ (ite_wp ⟨q, ?_⟩ (ite_wp ⟨q, erase_wp S q w⟩ (ite_wp ⟨q, rfl⟩ (ite_wp ⟨q, rfl⟩ (ite_wp ⟨q, rfl⟩ ⟨q, rfl⟩))))))))))
  · rw [e1]; rfl
  · rw [up_wp]; rfl
theorem takeRows_wp (S : Scr) (q : List PRow) (n : Nat) : (S.wp q).takeRows n = (S.takeRows n).wp q := by
  obtain ⟨q', e⟩ := roll_wp S q S.row n
  unfold takeRows
  show { (S.wp q).roll S.row n with past := q } = _
  rw [e]; rfl
theorem putMany_wp (n : Nat) : ∀ (k : Nat) (S : Scr) (q : List PRow), ∃ q', putMany n k (S.wp q) = (putMany n k S).wp q'
  | 0, _, q => ⟨q, rfl⟩
  | k + 1, S, q => by
    obtain ⟨q1, e⟩ := put_wp S q n
    show ∃ q', putMany n k ((S.wp q).put n) = (putMany n k (S.put n)).wp q'
    rw [e]
    exact putMany_wp n k (S.put n) q1
theorem one_wp (S : Scr) (q : List PRow) (w n : Nat) : ∃ q', (S.wp q).one w n = (S.one w n).wp q' := by
  unfold one
  refine ite_wp (ite_wp ⟨q, rfl⟩ ⟨q, rfl⟩) (ite_wp (ite_wp ⟨q, rfl⟩ ⟨q, rfl⟩) (ite_wp (ite_wp ⟨q, rfl⟩ ⟨q, rfl⟩) (ite_wp ⟨q, rfl⟩ (ite_wp ?_ (ite_wp ?_ ⟨q, rfl⟩)))))
  · dsimp only
    by_cases h : w = 68
    · simp only [if_pos h]
      rw [takeRows_wp]; exact ⟨q, rfl⟩
    · simp only [if_neg h]
      have e : (S.wp q).rollDown (S.wp q).row n = (S.rollDown S.row n).wp q := rollDown_wp S q S.row n
      rw [e]; exact ⟨q, rfl⟩
  · have e : (S.wp q).last = S.last := rfl
    rw [e]
    cases hl : S.last with
    | none => exact ⟨q, rfl⟩
    | some l => exact putMany_wp l _ S q
theorem great_wp (S : Scr) (q : List PRow) (w : Nat) (ns : List Nat) : ∃ q', (S.wp q).great w ns = (S.great w ns).wp q' := by
  unfold great
  split
  · exact ite_wp ⟨q, rfl⟩ (ite_wp (ite_wp ⟨q, rfl⟩ ⟨q, rfl⟩) ⟨q, rfl⟩)
  · exact one_wp S q _ _
  · exact ⟨q, rfl⟩
theorem act_wp (S : Scr) (q : List PRow) (t : Tk) : ∃ q', (S.wp q).act t = (S.act t).wp q' := by
  cases t with
  | sign n => exact put_wp S q n
  | fin =>
    obtain ⟨q1, e⟩ := down_wp S q
    show ∃ q', (S.wp q).down.stand (S.wp q).down.row 0 = _
    rw [e]; exact ⟨q1, rfl⟩
  | act w ns => exact ite_wp (small_wp S q w) (great_wp S q w ns)
theorem acts_wp : ∀ (ts : List Tk) (S : Scr) (q : List PRow), ∃ q', (S.wp q).acts ts = (S.acts ts).wp q'
  | [], _, q => ⟨q, rfl⟩
  | t :: ts, S, q => by
    obtain ⟨q1, e⟩ := act_wp S q t
    show ∃ q', ((S.wp q).act t).acts ts = ((S.act t).acts ts).wp q'
    rw [e]
    exact acts_wp ts (S.act t) q1
/-- a text of whole things comes to a reader that has begun nothing -/
theorem fed_good {S : Scr} {ts : List Tk} (h : S.rd.pre = .no) (g : ∀ t ∈ ts, t.Good) : S.fed (lawText ts) = S.acts ts := by
  have e : S.rd = ⟨.no, S.rd.lost⟩ := by
    cases hr : S.rd with
    | mk p l => rw [hr] at h; cases h; rfl
  exact fed_text S e (feed_text g _)
theorem acts_pre (S : Scr) (ts : List Tk) : (S.acts ts).rd.pre = S.rd.pre := by rw [acts_rd]
theorem new_pre (w h m : Nat) : (Scr.new w h m).rd.pre = .no := rfl
theorem acts_rep (n : Nat) : ∀ (k : Nat) (S : Scr), S.acts (List.replicate k (.sign n)) = putMany n k S
  | 0, _ => rfl
  | k + 1, S => acts_rep n k (S.put n)
end Scr
theorem dim_eqs {S : Scr} {w h m : Nat} (e : S.dim = (w, h, m)) : S.wide = w ∧ S.high = h ∧ S.most = m := by
  unfold Scr.dim at e
  injection e with e1 e2
  injection e2 with e2 e3
  exact ⟨e1, e2, e3⟩
theorem rstrip_rep (n : Nat) : rstripL (List.replicate n 32) = [] := by
  unfold rstripL
  rw [List.reverse_replicate]
  induction n with
  | zero => rfl
  | succ n ih =>
    rw [List.replicate_succ, List.dropWhile_cons, if_pos (by decide)]; exact ih
theorem rstrip_keep {l : List Nat} {x : Nat} (h : x ∈ l) (hx : x ≠ 32) : x ∈ rstripL l := by
  unfold rstripL
  rw [List.mem_reverse]
  have h' : x ∈ l.reverse := List.mem_reverse.mpr h
  generalize l.reverse = r at h'
  induction r with
  | nil => cases h'
  | cons y r ih =>
    rw [List.dropWhile_cons]
    split
    · rename_i hy
      rcases List.mem_cons.mp h' with rfl | h'
      · exact absurd (by simpa using hy) hx
      · exact ih h'
    · exact h'
theorem rowL_blank (w : Nat) : rowL (blankRow w) = [] := by
  unfold rowL blankRow
  rw [List.map_replicate]; exact rstrip_rep w
theorem rowL_len (p : PRow) : (rowL p).length ≤ p.cells.length := by
  unfold rowL rstripL
  rw [List.length_reverse]
  refine Nat.le_trans (List.dropWhile_sublist _).length_le ?_
  rw [List.length_reverse, List.length_map]; exact Nat.le_refl _
theorem texts_blank (w h : Nat) : textsV (List.replicate h (blankRow w)) = List.replicate h (.str (T [])) := by
  rw [textsV, List.map_replicate]
  show List.replicate h (V.str (T (rowL (blankRow w)))) = _
  rw [rowL_blank]
theorem textsD_blank (w h : Nat) : textsD (List.replicate h (blankRow w)) = .list (List.replicate h (.str (T []))) := by
  rw [textsD, List.map_replicate]
  show PyData.list (List.replicate h (.str (T (rowL (blankRow w))))) = _
  rw [rowL_blank]
/-- if .. else .. with one value -/
theorem x_iteTo {ta tb : TE} {σ : L2.St} {H : Hp} {Q : VK} {b : Bool} (v : V) (h1 : b = true → ∀ Q : VK, Q v H → ta σ H Q) (h2 : b = false → ∀ Q : VK, Q v H → tb σ H Q) (q : Q v H) : if b = true then ta σ H Q else tb σ H Q := by
  cases b with
  | true => rw [if_pos rfl]; exact h1 rfl _ q
  | false => rw [if_neg Bool.false_ne_true]; exact h2 rfl _ q
/-- if .. else .. that only sets names, one state behind it -/
theorem x_iteTo0 {A B : (L2.St → Hp → Prop) → Prop} {b : Bool} {Q : L2.St → Hp → Prop} (σ' : L2.St) (H' : Hp) (h1 : b = true → ∀ Q : L2.St → Hp → Prop, Q σ' H' → A Q) (h2 : b = false → ∀ Q : L2.St → Hp → Prop, Q σ' H' → B Q) (q : Q σ' H') : if b = true then A Q else B Q := by
  cases b with
  | true => rw [if_pos rfl]; exact h1 rfl _ q
  | false => rw [if_neg Bool.false_ne_true]; exact h2 rfl _ q
/-! ### views of what is told -/
section
variable {K : PySem.W.Frag} {F : Hp} {v : V} {ds : List PyData} {S : Scr}
theorem tup_view (h : Dp K F v (.tuple ds)) : ∃ p vs, v = .ref p ∧ SqT K F p vs ∧ DpAll K F vs ds := by
  cases h with
  | tup hs ha => exact ⟨_, _, rfl, hs, ha⟩
theorem lst_view (h : Dp K F v (.list ds)) : ∃ p vs, v = .ref p ∧ SqL K F p vs ∧ DpAll K F vs ds := by
  cases h with
  | lst hs ha => exact ⟨_, _, rfl, hs, ha⟩
theorem cursor_view (h : Dp K F v S.cursorD) : ∃ p, v = .ref p ∧ SqT K F p [.int (S.row : Nat), .int (S.column : Nat), .bl S.full] := by
  obtain ⟨p, vs, e, hs, ha⟩ := tup_view h
  cases ha with
  | cons a1 ha => cases ha with
    | cons a2 ha => cases ha with
      | cons a3 ha => cases ha; cases a1; cases a2; cases a3; exact ⟨p, e, hs⟩
theorem pair_view {a b : Int} (h : Dp K F v (.tuple [.int a, .int b])) : ∃ p, v = .ref p ∧ SqT K F p [.int a, .int b] := by
  obtain ⟨p, vs, e, hs, ha⟩ := tup_view h
  cases ha with
  | cons a1 ha => cases ha with
    | cons a2 ha => cases ha; cases a1; cases a2; exact ⟨p, e, hs⟩
theorem state_view (h : Dp K F v S.stateD) : ∃ p v1 q, v = .ref p ∧ SqT K F p [v1, .ref q] ∧ Dp K F v1 (penData S.pen) ∧ SqT K F q [.int (S.top : Nat), .int (S.bottom : Nat)] := by
  obtain ⟨p, vs, e, hs, ha⟩ := tup_view h
  cases ha with
  | cons a1 ha => cases ha with
    | cons a2 ha =>
      cases ha
      obtain ⟨q, rfl, hq⟩ := pair_view a2
      exact ⟨p, _, q, e, hs, a1, hq⟩
end
/-- i in (a, b, ..) -/
theorem inV_int (i : Int) (l : List Int) : inV (.int i) (l.map V.int) = decide (i ∈ l) := by
  unfold inV
  rw [List.any_map, Bool.eq_iff_iff, List.any_eq_true, decide_eq_true_eq]
  constructor
  · rintro ⟨n, hn, h⟩
    have h' : decide (n = i) = true := h
    rw [← of_decide_eq_true h']; exact hn
  · intro h
    exact ⟨i, h, by show decide (i = i) = true; exact decide_eq_true rfl⟩
theorem flat_int (l : List Int) : (l.map V.int).all flatV = true := by
  rw [List.all_map]; exact List.all_eq_true.mpr fun _ _ => rfl
theorem l_niI {K : PySem.W.Frag} {H : Hp} {Q : VK} {p : Addr} {i : Int} (l : List Int) (h : SqT K H p (l.map V.int)) (q : Q (.bl (!decide (i ∈ l))) H) : uNotIn K (.int i) (.ref p) H Q :=
  l_niT (.inr h) rfl (flat_int l) (by rw [inV_int]; exact q)
theorem l_inI {K : PySem.W.Frag} {H : Hp} {Q : VK} {p : Addr} {i : Int} (l : List Int) (h : SqT K H p (l.map V.int)) (q : Q (.bl (decide (i ∈ l))) H) : uIn K (.int i) (.ref p) H Q :=
  l_inT (.inr h) rfl (flat_int l) (by rw [inV_int]; exact q)
end Ss
/-! ## law k36 (plain) -/
namespace Ss
open PySem PySem.Spec PyProof.Rows L2
theorem good_act {w : Nat} {ns : List Nat} (h : isGreat w = true) (hl : ns.length ≤ 4) (hn : ∀ n ∈ ns, n ≤ 9999) : (Tk.act w ns).Good := .inr ⟨h, hl, hn⟩
theorem good_small {w : Nat} (h : isSmall w = true) : (Tk.act w []).Good := .inl ⟨h, rfl⟩
theorem fed_one {S : Scr} {t : Tk} {l : List Nat} (h : S.rd.pre = .no) (g : t.Good) (e : l = t.text) : S.fed l = S.act t := by
  have z := Scr.fed_good (ts := [t]) h fun u hu => by rw [List.mem_singleton.mp hu]; exact g
  have e2 : lawText [t] = t.text := by simp [lawText]
  rw [e, ← e2, z]; rfl
theorem act_J {S : Scr} {k : Nat} (hl : S.last = none) : S.act (.act 74 [k]) = S := by
  show S.one 74 k = S
  unfold Scr.one
  simp [hl]
theorem act_Jn {S : Scr} {n k : Nat} (hl : S.last = some n) : S.act (.act 74 [k]) = Scr.putMany n (min k (S.wide * S.high)) S := by
  show S.one 74 k = _
  unfold Scr.one
  simp [hl]
theorem k36_J5 {S : Scr} (hp : S.rd.pre = .no) (hl : S.last = none) : S.fed [94, 74, 40, 53, 41] = S :=
  (fed_one (t := .act 74 [5]) hp (good_act (by decide) (by decide) (by decide)) (by decide +kernel)).trans (act_J hl)
def k36Sign (i : Nat) : Nat := [97, 98, 99, 94].getD i 0
def k36Many (w h i : Nat) : Nat := [0, 1, 3, w, w * h, 9999].getD i 0
theorem k36_sign : ∀ i, i < 4 → isSign (k36Sign i) = true ∧ k36Sign i ≠ 10 ∧ k36Sign i ≠ 32 := by decide
theorem k36_many {w h i : Nat} (hi : i < 6) (hw : w ≤ 11) (hh : h ≤ 7) : k36Many w h i ≤ 9999 ∧ [V.int 0, V.int 1, V.int 3, V.int (w : Nat), V.int ((w * h : Nat) : Int), V.int 9999].getD i .non = .int (k36Many w h i : Nat) := by
  have hm : w * h ≤ 77 := Nat.mul_le_mul hw hh
  have e : i = 0 ∨ i = 1 ∨ i = 2 ∨ i = 3 ∨ i = 4 ∨ i = 5 := by omega
  rcases e with rfl | rfl | rfl | rfl | rfl | rfl
  · exact ⟨Nat.le_of_ble_eq_true rfl, rfl⟩
  · exact ⟨Nat.le_of_ble_eq_true rfl, rfl⟩
  · exact ⟨Nat.le_of_ble_eq_true rfl, rfl⟩
  · exact ⟨by show w ≤ 9999; omega, rfl⟩
  · exact ⟨by show w * h ≤ 9999; omega, rfl⟩
  · exact ⟨Nat.le_of_ble_eq_true rfl, rfl⟩
theorem sign_text (n : Nat) : (Tk.sign n).text.length ≤ 2 := by
  show (if n = 94 then [94, 94] else [n]).length ≤ 2
  split <;> simp
theorem k36_a {S : Scr} {n k : Nat} (hp : S.rd.pre = .no) (hn : isSign n = true ∧ n ≠ 10) (hk : k ≤ 9999) :
    S.fed ((Tk.sign n).text ++ [94, 74, 40] ++ TL.numL k ++ [41]) = Scr.putMany n (min k (S.wide * S.high) + 1) S := by
  have z := Scr.fed_good (ts := [.sign n, .act 74 [k]]) hp fun u hu => by
    rcases List.mem_cons.mp hu with rfl | hu
    · exact hn
    · rw [List.mem_singleton.mp hu]; exact good_act (by decide) (by simp) (by simpa using hk)
  have e2 : lawText [.sign n, .act 74 [k]] = (Tk.sign n).text ++ [94, 74, 40] ++ TL.numL k ++ [41] := by
    have e3 : (Tk.act 74 [k]).text = [94, 74, 40] ++ (TL.numL k ++ [41]) := rfl
    simp [lawText, e3]
  rw [← e2, z]
  show ((S.put n).act (.act 74 [k])) = _
  rw [act_Jn (put_last S n), Scr.dim_wide (Scr.put_dim S n), Scr.dim_high (Scr.put_dim S n)]
  rfl
theorem rep_text (n : Nat) : ∀ k, (List.replicate k (Tk.sign n).text).flatten = lawText (List.replicate k (.sign n))
  | 0 => rfl
  | k + 1 => by
    rw [List.replicate_succ, List.flatten_cons, rep_text n k, List.replicate_succ]; rfl
theorem k36_b {S : Scr} {n k : Nat} (hp : S.rd.pre = .no) (hn : isSign n = true ∧ n ≠ 10) : S.fed (List.replicate k (Tk.sign n).text).flatten = Scr.putMany n k S := by
  rw [rep_text, Scr.fed_good hp fun u hu => by rw [(List.mem_replicate.mp hu).2]; exact hn]
  exact Scr.acts_rep n k S
theorem rep_signs {n k : Nat} (hn : isSign n = true ∧ n ≠ 10) : ∀ x ∈ (List.replicate k (Tk.sign n).text).flatten, isSign x = true := by
  rw [rep_text]
  exact lawText_signs fun u hu => by rw [(List.mem_replicate.mp hu).2]; exact hn
theorem a_signs {n k : Nat} (hn : isSign n = true ∧ n ≠ 10) (hk : k ≤ 9999) : ∀ x ∈ (Tk.sign n).text ++ [94, 74, 40] ++ TL.numL k ++ [41], isSign x = true := by
  have e2 : lawText [.sign n, .act 74 [k]] = (Tk.sign n).text ++ [94, 74, 40] ++ TL.numL k ++ [41] := by
    have e3 : (Tk.act 74 [k]).text = [94, 74, 40] ++ (TL.numL k ++ [41]) := rfl
    simp [lawText, e3]
  rw [← e2]
  exact lawText_signs fun u hu => by
    rcases List.mem_cons.mp hu with rfl | hu
    · exact hn
    · rw [List.mem_singleton.mp hu]; exact good_act (by decide) (by simp) (by simpa using hk)
theorem put_there {S : Scr} (w : S.Wf) (n : Nat) : ∃ p ∈ (S.put n).rows, n ∈ p.cells.map (·.sign) := by
  have w1 := Scr.wrap_wf w
  unfold Scr.put
  generalize S.wrap = S1 at w1
  have hr : S1.row < S1.rows.length := by rw [w1.rl]; exact w1.row
  have e : (S1.type1 n).rows = S1.rows.set S1.row { S1.rowAt S1.row with cells := (S1.rowAt S1.row).cells.set S1.column ⟨n, S1.pen⟩ } := by
    unfold Scr.type1 Scr.next
    split <;> rfl
  rw [e]
  refine ⟨_, List.mem_of_getElem? (List.getElem?_set_self hr), ?_⟩
  have hc : S1.column < (S1.rowAt S1.row).cells.length := by rw [Scr.rowAt_len w1 w1.row]; exact w1.column
  refine List.mem_map.mpr ⟨⟨n, S1.pen⟩, ?_, rfl⟩
  exact List.mem_of_getElem? (List.getElem?_set_self hc)
theorem k36_in {S : Scr} (w : S.Wf) {n : Nat} (hn : n ≠ 32) (k : Nat) : n ∈ ((Scr.putMany n (k + 1) S).rows.map rowL ++ (Scr.putMany n (k + 1) S).past.map rowL).flatten := by
  rw [putMany_succ]
  obtain ⟨p, hp, hm⟩ := put_there (Scr.putMany_wf n k w) n
  exact List.mem_flatten.mpr ⟨rowL p, List.mem_append_left _ (List.mem_map_of_mem hp), rstrip_keep hm hn⟩
theorem begin_eq {S : Scr} {w h m : Nat} (hd : S.dim = (w, h, m)) : S.begin = ((Scr.new w h m).wr S.rd).wp S.past := by
  have e1 : S.wide = w := congrArg (·.1) hd
  have e2 : S.high = h := congrArg (·.2.1) hd
  have e3 : S.most = m := congrArg (·.2.2) hd
  subst e1 e2 e3
  rfl
theorem k36_z {S : Scr} (hp : S.rd.pre = .no) : S.fed [94, 122] = S.begin := (fed_one (t := .act 122 []) hp (good_small (by decide)) (by decide)).trans rfl
theorem J3_signs {l : List Nat} (h : ∀ x ∈ l, isSign x = true) : ∀ x ∈ [94, 74, 40, 51, 41] ++ l, isSign x = true := fun x hx => by
  rcases List.mem_append.mp hx with hx | hx
  · have : ∀ x ∈ [94, 74, 40, 51, 41], isSign x = true := by decide
    exact this x hx
  · exact h x hx
theorem J3_ok {l : List Nat} (h : ∀ x ∈ l, isSign x = true) (hl : l.length ≤ 304) : okText (.str (T ([94, 74, 40, 51, 41] ++ l))) = true := okText_of (J3_signs h) (by simp; omega)
theorem begin_told {S : Scr} {w h m : Nat} (hd : S.dim = (w, h, m)) : S.begin.cursorD = (Scr.new w h m).cursorD ∧ S.begin.pageD = (Scr.new w h m).pageD ∧ S.begin.stateD = (Scr.new w h m).stateD ∧ S.begin.past = S.past := by
  rw [begin_eq hd]
  exact ⟨rfl, rfl, rfl, rfl⟩
theorem k36_c {S : Scr} {w h m : Nat} {row : List Tk} (hp : S.rd.pre = .no) (hd : S.dim = (w, h, m)) (g : ∀ t ∈ row, t.Good) :
    (S.begin.fed ([94, 74, 40, 51, 41] ++ lawText row)).pageD = ((Scr.new w h m).fed (lawText row)).pageD ∧ (S.begin.fed ([94, 74, 40, 51, 41] ++ lawText row)).cursorD = ((Scr.new w h m).fed (lawText row)).cursorD := by
  have e0 : [94, 74, 40, 51, 41] ++ lawText row = lawText (.act 74 [3] :: row) := by
    have e3 : (Tk.act 74 [3]).text = [94, 74, 40, 51, 41] := by decide +kernel
    show _ = (Tk.act 74 [3]).text ++ lawText row
    rw [e3]
  have g' : ∀ t ∈ Tk.act 74 [3] :: row, t.Good := fun t ht => by
    rcases List.mem_cons.mp ht with rfl | ht
    · exact good_act (by decide) (by decide) (by decide)
    · exact g t ht
  have hn : (Scr.new w h m).rd.pre = .no := rfl
  rw [e0, Scr.fed_good (S := S.begin) hp g', Scr.acts_cons, act_J (S := S.begin) rfl, begin_eq hd, Scr.fed_good hn g]
  obtain ⟨q, e⟩ := Scr.acts_wp row ((Scr.new w h m).wr S.rd) S.past
  rw [e, Scr.acts_wr]
  exact ⟨rfl, rfl⟩
end Ss
/-! ## law k34 (plain) -/
namespace Ss
open PySem PySem.Spec PyProof.Rows L2
def Scr.at_ (S : Scr) (r k : Nat) (f : Bool) : Scr := { S with row := r, column := k, full := f }
def cl (m : Nat) (x : Int) : Nat := (max 0 (min ((m : Int) - 1) x)).toNat
theorem cl_int (m : Nat) (x : Int) : max 0 (min ((m : Int) - 1) x) = ((cl m x : Nat) : Int) := by unfold cl; omega
theorem cl_id {m k : Nat} (h : k < m) : cl m (k : Int) = k := by unfold cl; omega
theorem stand_at (S : Scr) (x y : Int) : S.stand x y = S.at_ (cl S.high x) (cl S.wide y) false := rfl
theorem at_at (S : Scr) (r k r' k' : Nat) (f f' : Bool) : (S.at_ r k f).at_ r' k' f' = S.at_ r' k' f' := rfl
theorem fed_G {S : Scr} (hp : S.rd.pre = .no) {r k : Nat} (hr : r ≤ 9999) (hk : k ≤ 9999) : S.fed ([94, 71, 40] ++ TL.numL r ++ [44] ++ TL.numL k ++ [41]) = S.stand r k := by
  refine (fed_one (t := .act 71 [r, k]) hp (good_act (by decide) (by simp) (by simp; omega)) ?_).trans rfl
  show _ = [94, 71, 40] ++ (TL.joinL [44] [TL.numL r, TL.numL k] ++ [41])
  simp [TL.joinL]
theorem G_signs {r k : Nat} (hr : r ≤ 9999) (hk : k ≤ 9999) : ∀ x ∈ [94, 71, 40] ++ TL.numL r ++ [44] ++ TL.numL k ++ [41], isSign x = true := by
  have e : [94, 71, 40] ++ TL.numL r ++ [44] ++ TL.numL k ++ [41] = (Tk.act 71 [r, k]).text := by
    show _ = [94, 71, 40] ++ (TL.joinL [44] [TL.numL r, TL.numL k] ++ [41])
    simp [TL.joinL]
  rw [e]
  exact text_signs (good_act (by decide) (by simp) (by simp; omega))
theorem G_ok {r k : Nat} (hr : r ≤ 9999) (hk : k ≤ 9999) : okText (.str (T ([94, 71, 40] ++ TL.numL r ++ [44] ++ TL.numL k ++ [41]))) = true := by
  have a := numL_len4 hr
  have b := numL_len4 hk
  exact okText_of (G_signs hr hk) (by simp; omega)
def k34Word (i : Nat) : Nat := [117, 100, 108, 114, 104, 71].getD i 0
/-- by how much a move goes -/
def k34By (i r k : Nat) : Int × Int := match i with
  | 0 => (-1, 0)
  | 1 => (1, 0)
  | 2 => (0, -1)
  | 3 => (0, 1)
  | _ => (0 - (r : Int), 0 - (k : Int))
theorem k34_move {S : Scr} (hp : S.rd.pre = .no) {i : Nat} (hi : i < 5) : S.fed [94, k34Word i] = S.at_ (cl S.high ((S.row : Int) + (k34By i S.row S.column).1)) (cl S.wide ((S.column : Int) + (k34By i S.row S.column).2)) false := by
  have e : i = 0 ∨ i = 1 ∨ i = 2 ∨ i = 3 ∨ i = 4 := by omega
  rcases e with rfl | rfl | rfl | rfl | rfl
  · refine (fed_one (t := .act 117 []) hp (good_small (by decide)) rfl).trans ?_
    show S.stand ((S.row : Int) - 1) S.column = S.stand ((S.row : Int) + -1) ((S.column : Int) + 0)
    rw [Int.add_zero]; rfl
  · refine (fed_one (t := .act 100 []) hp (good_small (by decide)) rfl).trans ?_
    show S.stand ((S.row : Int) + 1) S.column = S.stand ((S.row : Int) + 1) ((S.column : Int) + 0)
    rw [Int.add_zero]
  · refine (fed_one (t := .act 108 []) hp (good_small (by decide)) rfl).trans ?_
    show S.stand S.row ((S.column : Int) - 1) = S.stand ((S.row : Int) + 0) ((S.column : Int) + -1)
    rw [Int.add_zero]; rfl
  · refine (fed_one (t := .act 114 []) hp (good_small (by decide)) rfl).trans ?_
    show S.stand S.row ((S.column : Int) + 1) = S.stand ((S.row : Int) + 0) ((S.column : Int) + 1)
    rw [Int.add_zero]
  · refine (fed_one (t := .act 104 []) hp (good_small (by decide)) rfl).trans ?_
    show S.stand 0 0 = S.stand ((S.row : Int) + (0 - (S.row : Int))) ((S.column : Int) + (0 - (S.column : Int)))
    rw [show (S.row : Int) + (0 - (S.row : Int)) = 0 by omega, show (S.column : Int) + (0 - (S.column : Int)) = 0 by omega]
theorem k34_word_ok : ∀ i, i < 5 → okText (.str (T [94, k34Word i])) = true := by decide
theorem k34_np {S : Scr} (hp : S.rd.pre = .no) (w : S.Wf) (hf : S.full = false) (h1 : S.row ≠ S.bottom) (h2 : S.row ≠ S.high - 1) (h3 : S.row + 1 ≠ S.top) : S.fed [94, 110, 94, 112] = S := by
  have z := Scr.fed_good (ts := [.act 110 [], .act 112 []]) hp fun u hu => by
    rcases List.mem_cons.mp hu with rfl | hu
    · exact good_small (by decide)
    · rw [List.mem_singleton.mp hu]; exact good_small (by decide)
  have e2 : lawText [.act 110 [], .act 112 []] = [94, 110, 94, 112] := by decide
  rw [← e2, z]
  have hr := w.row
  have hc := w.column
  have hlt : S.row < S.high - 1 := by omega
  have e1 : S.down = { S with row := S.row + 1 } := by
    unfold Scr.down
    rw [if_neg h1, if_pos hlt]
  have e3 : S.act (.act 110 []) = S.at_ (S.row + 1) S.column false := by
    show S.down.stand S.down.row S.down.column = _
    rw [e1]
    show S.at_ (cl S.high ((S.row + 1 : Nat) : Int)) (cl S.wide (S.column : Int)) false = _
    rw [cl_id (by omega), cl_id hc]
  show (S.act (.act 110 [])).act (.act 112 []) = S
  rw [e3]
  have e4 : (S.at_ (S.row + 1) S.column false).up = S.at_ S.row S.column false := by
    unfold Scr.up
    rw [if_neg (show ¬ (S.at_ (S.row + 1) S.column false).row = (S.at_ (S.row + 1) S.column false).top from h3), if_pos (show 0 < (S.at_ (S.row + 1) S.column false).row from Nat.succ_pos _)]
    rfl
  show (S.at_ (S.row + 1) S.column false).up.stand (S.at_ (S.row + 1) S.column false).up.row (S.at_ (S.row + 1) S.column false).up.column = S
  rw [e4]
  show S.at_ (cl S.high (S.row : Int)) (cl S.wide (S.column : Int)) false = S
  rw [cl_id hr, cl_id hc, ← hf]; rfl
theorem k34_t {S : Scr} (hp : S.rd.pre = .no) {r k : Nat} (hb : S.putBy = (r, k, S.pen)) (hr : r < S.high) (hk : k < S.wide) : S.fed [94, 67, 40, 55, 41, 94, 66, 40, 49, 41, 94, 77, 40, 48, 41, 94, 116] = S.at_ r k false := by
  have z := Scr.fed_good (ts := [.act 67 [7], .act 66 [1], .act 77 [0], .act 116 []]) hp fun u hu => by
    rcases List.mem_cons.mp hu with rfl | hu
    · exact good_act (by decide) (by decide) (by decide)
    rcases List.mem_cons.mp hu with rfl | hu
    · exact good_act (by decide) (by decide) (by decide)
    rcases List.mem_cons.mp hu with rfl | hu
    · exact good_act (by decide) (by decide) (by decide)
    rw [List.mem_singleton.mp hu]; exact good_small (by decide)
  have e2 : lawText [.act 67 [7], .act 66 [1], .act 77 [0], .act 116 []] = [94, 67, 40, 55, 41, 94, 66, 40, 49, 41, 94, 77, 40, 48, 41, 94, 116] := by decide +kernel
  rw [← e2, z]
  have e3 : S.acts [.act 67 [7], .act 66 [1], .act 77 [0], .act 116 []] = { S.at_ (cl S.high S.putBy.1) (cl S.wide S.putBy.2.1) false with pen := S.putBy.2.2 } := rfl
  rw [e3, hb]
  show { S.at_ (cl S.high (r : Int)) (cl S.wide (k : Int)) false with pen := S.pen } = _
  rw [cl_id hr, cl_id hk]; rfl
theorem k34_no {S : Scr} (hp : S.rd.pre = .no) : S.fed [94, 67, 40, 56, 41, 94, 66, 40, 57, 57, 57, 57, 41, 94, 77, 40, 52, 41, 94, 67, 40, 41, 94, 67, 40, 49, 44, 50, 41] = S := by
  have z := Scr.fed_good (ts := [.act 67 [8], .act 66 [9999], .act 77 [4], .act 67 [], .act 67 [1, 2]]) hp fun u hu => by
    rcases List.mem_cons.mp hu with rfl | hu
    · exact good_act (by decide) (by decide) (by decide)
    rcases List.mem_cons.mp hu with rfl | hu
    · exact good_act (by decide) (by decide) (by decide)
    rcases List.mem_cons.mp hu with rfl | hu
    · exact good_act (by decide) (by decide) (by decide)
    rcases List.mem_cons.mp hu with rfl | hu
    · exact good_act (by decide) (by decide) (by decide)
    rw [List.mem_singleton.mp hu]; exact good_act (by decide) (by decide) (by decide)
  have e2 : lawText [.act 67 [8], .act 66 [9999], .act 77 [4], .act 67 [], .act 67 [1, 2]] = [94, 67, 40, 56, 41, 94, 66, 40, 57, 57, 57, 57, 41, 94, 77, 40, 52, 41, 94, 67, 40, 41, 94, 67, 40, 49, 44, 50, 41] := by decide +kernel
  rw [← e2, z]; rfl
/-- the beginning -/
theorem k34_start {S : Scr} (hp : S.rd.pre = .no) {row : List Tk} (g : ∀ t ∈ row, t.Good) : ∃ X : Scr, S.fed (lawText row ++ [94, 67, 40, 51, 41, 94, 77, 40, 50, 41, 94, 115]) = X ∧ X.rd.pre = .no ∧ X.dim = S.dim ∧ X.putBy = (X.row, X.column, X.pen) := by
  have z := Scr.fed_good (ts := row ++ [.act 67 [3], .act 77 [2], .act 115 []]) hp fun u hu => by
    rcases List.mem_append.mp hu with hu | hu
    · exact g u hu
    rcases List.mem_cons.mp hu with rfl | hu
    · exact good_act (by decide) (by decide) (by decide)
    rcases List.mem_cons.mp hu with rfl | hu
    · exact good_act (by decide) (by decide) (by decide)
    rw [List.mem_singleton.mp hu]; exact good_small (by decide)
  have e2 : lawText [.act 67 [3], .act 77 [2], .act 115 []] = [94, 67, 40, 51, 41, 94, 77, 40, 50, 41, 94, 115] := by decide +kernel
  rw [lawText_app, e2] at z
  refine ⟨_, rfl, ?_, ?_, ?_⟩
  · rw [z]; exact (Scr.acts_pre _ _).trans hp
  · exact Scr.fed_dim _ _
  · rw [z, Scr.acts_app]; rfl
theorem start_signs {row : List Tk} (g : ∀ t ∈ row, t.Good) : ∀ x ∈ lawText row ++ [94, 67, 40, 51, 41, 94, 77, 40, 50, 41, 94, 115], isSign x = true := fun x hx => by
  rcases List.mem_append.mp hx with hx | hx
  · exact lawText_signs g x hx
  · have : ∀ x ∈ [94, 67, 40, 51, 41, 94, 77, 40, 50, 41, 94, 115], isSign x = true := by decide
    exact this x hx
theorem at_wf {S : Scr} (w : S.Wf) {r k : Nat} {f : Bool} (hr : r < S.high) (hk : k < S.wide) : (S.at_ r k f).Wf := ⟨w.w1, w.w2, w.h1, w.h2, w.m, w.rl, w.rw, w.pl, w.pw, hr, hk, w.tb, w.bh, w.rd⟩
theorem get5 {a b d e f : V} (i : Nat) (hi : i < 5) : valV (mergeK [] [(Sum.inr (T [117]), a), (Sum.inr (T [100]), b), (Sum.inr (T [108]), d), (Sum.inr (T [114]), e), (Sum.inr (T [104]), f)]) (Sum.inr (T [k34Word i])) = some ([a, b, d, e, f].getD i .non) := by
  have z : i = 0 ∨ i = 1 ∨ i = 2 ∨ i = 3 ∨ i = 4 := by omega
  rcases z with rfl | rfl | rfl | rfl | rfl <;> kernel_rfl
end Ss
/-! ## Screens: the grid of their cells; lines typed -/
namespace Ss
open PySem PySem.Spec PyProof.Rows L2
def blankLine (w : Nat) : List Cell := List.replicate w blankCell
def gridD (g : List (List Cell)) : PyData := .list (g.map fun l => .list (l.map Cell.data))
def lineText (l : List Cell) : List Nat := rstripL (l.map (·.sign))
namespace Scr
def grid (S : Scr) : List (List Cell) := S.rows.map (·.cells)
variable {S : Scr}
theorem pageD_grid (S : Scr) : S.pageD = gridD S.grid := by
  unfold pageD gridD grid
  rw [List.map_map]; rfl
theorem grid_len (w : S.Wf) : S.grid.length = S.high := by unfold grid; rw [List.length_map]; exact w.rl
theorem grid_w (w : S.Wf) : ∀ l ∈ S.grid, l.length = S.wide := fun l hl => by
  obtain ⟨p, hp, rfl⟩ := List.mem_map.mp hl
  exact w.rw p hp
theorem grid_at (S : Scr) (i : Nat) : S.grid.getD i [] = (S.rowAt i).cells := by
  unfold grid rowAt
  rw [List.getD_eq_getElem?_getD, List.getD_eq_getElem?_getD, List.getElem?_map]
  cases S.rows[i]? <;> rfl
theorem grid_setRow (S : Scr) (i : Nat) (p : PRow) : (S.setRow i p).grid = S.grid.set i p.cells := by
  show (S.rows.set i p).map (·.cells) = _
  rw [List.map_set]; rfl
theorem grid_setGoes (S : Scr) (i : Nat) (b : Bool) : (S.setGoes i b).grid = S.grid := by
  unfold setGoes
  rw [grid_setRow]
  show S.grid.set i (S.rowAt i).cells = S.grid
  rw [← grid_at]
  refine List.ext_getElem? fun j => ?_
  by_cases h : i = j
  · subst h
    by_cases hi : i < S.grid.length
    · rw [List.getElem?_set_self hi, List.getD_eq_getElem?_getD, List.getElem?_eq_getElem hi]; rfl
    · rw [List.getElem?_eq_none (by rw [List.length_set]; omega), List.getElem?_eq_none (by omega)]
  · rw [List.getElem?_set_ne h]
theorem grid_cutOff (S : Scr) (t : Nat) : (S.cutOff t).grid = S.grid := by
  unfold cutOff
  split
  · rw [grid_setGoes, grid_setGoes]
  · rw [grid_setGoes]
theorem grid_rep (n w : Nat) : (List.replicate n (blankRow w)).map (·.cells) = List.replicate n (blankLine w) := by rw [List.map_replicate]; rfl
theorem grid_roll (S : Scr) (t n : Nat) : (S.roll t n).grid = S.grid.take t ++ (S.grid.drop (t + min n (S.bottom + 1 - t))).take (S.bottom + 1 - (t + min n (S.bottom + 1 - t))) ++ List.replicate (min n (S.bottom + 1 - t)) (blankLine S.wide) ++ S.grid.drop (S.bottom + 1) := by
  unfold roll
  rw [grid_cutOff]
  show (S.rows.take t ++ (S.rows.drop _).take _ ++ List.replicate _ (blankRow S.wide) ++ S.rows.drop _).map (·.cells) = _
  unfold grid
  rw [List.map_append, List.map_append, List.map_append, List.map_take, List.map_take, List.map_drop, List.map_drop, grid_rep]
theorem grid_rollDown (S : Scr) (t n : Nat) : (S.rollDown t n).grid = S.grid.take t ++ List.replicate (min n (S.bottom + 1 - t)) (blankLine S.wide) ++ (S.grid.drop t).take (S.bottom + 1 - min n (S.bottom + 1 - t) - t) ++ S.grid.drop (S.bottom + 1) := by
  unfold rollDown
  rw [grid_cutOff]
  show (S.rows.take t ++ List.replicate _ (blankRow S.wide) ++ (S.rows.drop t).take _ ++ S.rows.drop _).map (·.cells) = _
  unfold grid
  rw [List.map_append, List.map_append, List.map_append, List.map_take, List.map_take, List.map_drop, List.map_drop, grid_rep]
/-- all but rows and rows' flags stays -/
structure Rest (S S' : Scr) : Prop where
  dim : S'.dim = S.dim
  past : S'.past = S.past
  row : S'.row = S.row
  column : S'.column = S.column
  full : S'.full = S.full
  pen : S'.pen = S.pen
  top : S'.top = S.top
  bottom : S'.bottom = S.bottom
  putBy : S'.putBy = S.putBy
  last : S'.last = S.last
  rd : S'.rd = S.rd
theorem Rest.refl (S : Scr) : Rest S S := ⟨rfl, rfl, rfl, rfl, rfl, rfl, rfl, rfl, rfl, rfl, rfl⟩
theorem cutOff_rest (S : Scr) (t : Nat) : Rest S (S.cutOff t) := by
  unfold cutOff
  split <;> exact ⟨rfl, rfl, rfl, rfl, rfl, rfl, rfl, rfl, rfl, rfl, rfl⟩
theorem rollDown_rest (S : Scr) (t n : Nat) : Rest S (S.rollDown t n) := by
  have h := cutOff_rest (S.rolledDown t (min n (S.bottom + 1 - t))) t
  exact ⟨h.dim, h.past, h.row, h.column, h.full, h.pen, h.top, h.bottom, h.putBy, h.last, h.rd⟩
theorem takeRows_rest (S : Scr) (n : Nat) : Rest S (S.takeRows n) := by
  have h := cutOff_rest (S.rolled S.row (min n (S.bottom + 1 - S.row))) S.row
  exact ⟨h.dim, rfl, h.row, h.column, h.full, h.pen, h.top, h.bottom, h.putBy, h.last, h.rd⟩
theorem grid_takeRows (S : Scr) (n : Nat) : (S.takeRows n).grid = (S.roll S.row n).grid := rfl
/-! ### a line typed where there is room -/
def typedRow (S : Scr) (l : List Nat) : List Cell := (S.rowAt S.row).cells.take S.column ++ l.map (fun n => ⟨n, S.pen⟩) ++ (S.rowAt S.row).cells.drop (S.column + l.length)
def typed (S : Scr) (l : List Nat) : Scr :=
  { S.setCells (S.typedRow l) with column := if S.column + l.length = S.wide then S.wide - 1 else S.column + l.length, full := decide (S.column + l.length = S.wide), last := l.getLast? }
theorem rowAt_set (S : Scr) (i : Nat) (p : PRow) (h : i < S.rows.length) : (S.setRow i p).rowAt i = p := by
  show (S.rows.set i p).getD i _ = p
  rw [List.getD_eq_getElem?_getD, List.getElem?_set_self h]; rfl
theorem setRow_setRow (S : Scr) (i : Nat) (p q : PRow) : (S.setRow i p).setRow i q = S.setRow i q := by
  show ({ S with rows := (S.rows.set i p).set i q } : Scr) = { S with rows := S.rows.set i q }
  rw [List.set_set]
theorem set_mid {α : Type} (A : List α) (b : α) (B : List α) (x : α) : (A ++ b :: B).set A.length x = A ++ x :: B := by
  rw [List.set_append_right _ _ (Nat.le_refl _), Nat.sub_self]; rfl
theorem put_room (w : S.Wf) (hf : S.full = false) (n : Nat) : S.put n = S.typed [n] := by
  have hc := w.column
  have hl := rowAt_len w w.row
  have hw : S.wrap = S := by unfold wrap; rw [hf]; rfl
  unfold put
  rw [hw]
  have e : (S.rowAt S.row).cells.set S.column ⟨n, S.pen⟩ = S.typedRow [n] := by
    unfold typedRow
    have h1 : (S.rowAt S.row).cells = (S.rowAt S.row).cells.take S.column ++ (S.rowAt S.row).cells[S.column]'(by omega) :: (S.rowAt S.row).cells.drop (S.column + 1) := by
      rw [List.getElem_cons_drop]; exact (List.take_append_drop _ _).symm
    have h2 : ((S.rowAt S.row).cells.take S.column).length = S.column := by rw [List.length_take]; omega
    generalize (S.rowAt S.row).cells.take S.column = A at h1 h2
    generalize (S.rowAt S.row).cells[S.column]'(by omega) = b at h1
    show (S.rowAt S.row).cells.set S.column ⟨n, S.pen⟩ = A ++ [⟨n, S.pen⟩] ++ (S.rowAt S.row).cells.drop (S.column + 1)
    generalize (S.rowAt S.row).cells.drop (S.column + 1) = B at h1
    rw [h1, ← h2, set_mid]
    simp
  have hx : ∀ X : Scr, X.column = S.column → X.wide = S.wide → X.next = if S.column = S.wide - 1 then { X with full := true } else { X with column := S.column + 1 } := fun X h1 h2 => by unfold next; rw [h1, h2]
  unfold type1 typed
  rw [e]
  refine (hx { S.setCells (S.typedRow [n]) with last := some n } rfl rfl).trans ?_
  by_cases h : S.column = S.wide - 1
  · rw [if_pos h]
    have h2 : S.column + [n].length = S.wide := by show S.column + 1 = S.wide; omega
    rw [if_pos h2, decide_eq_true h2, ← h]; rfl
  · rw [if_neg h]
    have h2 : ¬ S.column + [n].length = S.wide := by show ¬ S.column + 1 = S.wide; omega
    rw [if_neg h2, decide_eq_false h2, ← hf]; rfl
theorem typed_one_wf (w : S.Wf) (hf : S.full = false) (n : Nat) : (S.typed [n]).Wf := by
  rw [← put_room w hf n]; exact put_wf w n
theorem type_line : ∀ (l : List Nat) {S : Scr}, S.Wf → S.full = false → l ≠ [] → S.column + l.length ≤ S.wide → S.acts (l.map .sign) = S.typed l
  | [], _, _, _, h, _ => absurd rfl h
  | [n], _, w, hf, _, _ => put_room w hf n
  | n :: m :: l, S, w, hf, _, hl => by
    have hl' : S.column + (l.length + 1 + 1) ≤ S.wide := hl
    have hc := w.column
    have hrl := rowAt_len w w.row
    have w1 := typed_one_wf w hf n
    have h2 : ¬ S.column + [n].length = S.wide := by show ¬ S.column + 1 = S.wide; omega
    have ec : (S.typed [n]).column = S.column + 1 := by show (if S.column + [n].length = S.wide then _ else _) = _; rw [if_neg h2]; rfl
    have ef : (S.typed [n]).full = false := decide_eq_false h2
    have ih := type_line (m :: l) w1 ef (by simp) (by rw [ec]; show S.column + 1 + (l.length + 1) ≤ S.wide; omega)
    show (S.put n).acts ((m :: l).map .sign) = _
    rw [put_room w hf n, ih]
    have er : (S.typed [n]).rowAt (S.typed [n]).row = { S.rowAt S.row with cells := S.typedRow [n] } := rowAt_set S S.row _ (by rw [w.rl]; exact w.row)
    have et : (S.typed [n]).typedRow (m :: l) = S.typedRow (n :: m :: l) := by
      unfold typedRow
      rw [er, ec]
      show (S.typedRow [n]).take (S.column + 1) ++ (m :: l).map (fun n => ⟨n, S.pen⟩) ++ (S.typedRow [n]).drop (S.column + 1 + (m :: l).length) = _
      have ea : ((S.rowAt S.row).cells.take S.column ++ [(⟨n, S.pen⟩ : Cell)]).length = S.column + 1 := by rw [List.length_append, List.length_take]; show min _ _ + 1 = _; omega
      have e1 : (S.typedRow [n]).take (S.column + 1) = (S.rowAt S.row).cells.take S.column ++ [⟨n, S.pen⟩] := by
        show ((S.rowAt S.row).cells.take S.column ++ [(⟨n, S.pen⟩ : Cell)] ++ (S.rowAt S.row).cells.drop (S.column + 1)).take (S.column + 1) = _
        rw [← ea]; exact List.take_left
      have e2 : (S.typedRow [n]).drop (S.column + 1 + (m :: l).length) = (S.rowAt S.row).cells.drop (S.column + (n :: m :: l).length) := by
        show ((S.rowAt S.row).cells.take S.column ++ [(⟨n, S.pen⟩ : Cell)] ++ (S.rowAt S.row).cells.drop (S.column + 1)).drop (S.column + 1 + (m :: l).length) = _
        rw [← List.drop_drop]
        have e3 : ((S.rowAt S.row).cells.take S.column ++ [(⟨n, S.pen⟩ : Cell)] ++ (S.rowAt S.row).cells.drop (S.column + 1)).drop (S.column + 1) = (S.rowAt S.row).cells.drop (S.column + 1) := by
          rw [← ea]; exact List.drop_left
        rw [e3, List.drop_drop]
        show _ = (S.rowAt S.row).cells.drop (S.column + ((m :: l).length + 1))
        rw [show S.column + 1 + (m :: l).length = S.column + ((m :: l).length + 1) by omega]
      rw [e1, e2]; simp
    have es : ∀ x : List Cell, (S.typed [n]).setCells x = { S.setCells x with column := (S.typed [n]).column, full := (S.typed [n]).full, last := (S.typed [n]).last } := fun x => by
      unfold setCells
      rw [er]
      show ({ (S.typed [n]) with rows := (S.rows.set S.row _).set S.row _ } : Scr) = _
      rw [List.set_set]; rfl
    have e5 : S.column + 1 + (m :: l).length = S.column + (n :: m :: l).length := by show S.column + 1 + (l.length + 1) = S.column + (l.length + 1 + 1); omega
    show ({ (S.typed [n]).setCells ((S.typed [n]).typedRow (m :: l)) with column := if (S.typed [n]).column + (m :: l).length = S.wide then S.wide - 1 else (S.typed [n]).column + (m :: l).length, full := decide ((S.typed [n]).column + (m :: l).length = S.wide), last := (m :: l).getLast? } : Scr) = _
    rw [et, es, ec, e5]
    rfl
end Scr
end Ss
/-! ## Pages as they lie; comprehensions with a test -/
namespace Ss
open PySem PySem.Spec PyProof.Rows L2
/-- rows of cells, each a list of its own -/
def GridV (c : Ctx) (F : Hp) : List V → List (List Cell) → Prop
  | [], [] => True
  | y :: ys, l :: g => (∃ (r : Addr) (vals : List V), y = .ref r ∧ F r = some (.lst vals) ∧ DpAll c.K F vals (l.map Cell.data)) ∧ GridV c F ys g
  | _, _ => False
section
variable {c : Ctx} {F F' : Hp}
theorem GridV.gr (s : Gr F F') : ∀ {ys : List V} {g : List (List Cell)}, GridV c F ys g → GridV c F' ys g
  | [], [], _ => trivial
  | _ :: _, _ :: _, ⟨⟨r, vals, a, b, d⟩, h⟩ => ⟨⟨r, vals, a, s.lst b, s.dpAll d⟩, GridV.gr s h⟩
  | [], _ :: _, h => h
  | _ :: _, [], h => h
theorem GridV.len : ∀ {ys : List V} {g : List (List Cell)}, GridV c F ys g → ys.length = g.length
  | [], [], _ => rfl
  | _ :: _, _ :: _, h => congrArg Nat.succ (GridV.len h.2)
  | [], _ :: _, h => h.elim
  | _ :: _, [], h => h.elim
theorem GridV.dp : ∀ {ys : List V} {g : List (List Cell)}, GridV c F ys g → DpAll c.K F ys (g.map fun l => .list (l.map Cell.data))
  | [], [], _ => .nil
  | _ :: _, _ :: _, ⟨⟨r, vals, a, b, d⟩, h⟩ => .cons (by rw [a]; exact .lst (sq_of b) d) (GridV.dp h)
  | [], _ :: _, h => h.elim
  | _ :: _, [], h => h.elim
theorem GridV.get : ∀ {ys : List V} {g : List (List Cell)} (i : Nat), GridV c F ys g → i < g.length → ∃ (r : Addr) (vals : List V), ys.getD i .non = .ref r ∧ F r = some (.lst vals) ∧ DpAll c.K F vals ((g.getD i []).map Cell.data)
  | [], [], _, _, h => absurd h (Nat.not_lt_zero _)
  | _ :: _, _ :: _, 0, h, _ => h.1
  | _ :: _, _ :: _, i + 1, h, hi => GridV.get i h.2 (Nat.lt_of_succ_lt_succ hi)
  | [], _ :: _, _, h, _ => h.elim
  | _ :: _, [], _, h, _ => h.elim
theorem GridV.take : ∀ {ys : List V} {g : List (List Cell)} (n : Nat), GridV c F ys g → GridV c F (ys.take n) (g.take n)
  | [], [], n, _ => by rw [List.take_nil, List.take_nil]; trivial
  | _ :: _, _ :: _, 0, _ => trivial
  | _ :: _, _ :: _, n + 1, h => ⟨h.1, GridV.take n h.2⟩
  | [], _ :: _, _, h => h.elim
  | _ :: _, [], _, h => h.elim
theorem GridV.drop : ∀ {ys : List V} {g : List (List Cell)} (n : Nat), GridV c F ys g → GridV c F (ys.drop n) (g.drop n)
  | [], [], n, _ => by rw [List.drop_nil, List.drop_nil]; trivial
  | _ :: _, _ :: _, 0, h => h
  | _ :: _, _ :: _, n + 1, h => GridV.drop n h.2
  | [], _ :: _, _, h => h.elim
  | _ :: _, [], _, h => h.elim
theorem GridV.app : ∀ {ys zs : List V} {g k : List (List Cell)}, GridV c F ys g → GridV c F zs k → GridV c F (ys ++ zs) (g ++ k)
  | [], _, [], _, _, h => h
  | _ :: _, _, _ :: _, _, h, h2 => ⟨h.1, GridV.app h.2 h2⟩
  | [], _, _ :: _, _, h, _ => h.elim
  | _ :: _, _, [], _, h, _ => h.elim
theorem GridV.set {r : Addr} {vals : List V} {l : List Cell} (hr : F r = some (.lst vals)) (hd : DpAll c.K F vals (l.map Cell.data)) : ∀ {ys : List V} {g : List (List Cell)} (i : Nat), GridV c F ys g → GridV c F (ys.set i (.ref r)) (g.set i l)
  | [], [], _, _ => trivial
  | _ :: _, _ :: _, 0, h => ⟨⟨r, vals, rfl, hr, hd⟩, h.2⟩
  | _ :: _, _ :: _, i + 1, h => ⟨h.1, GridV.set hr hd i h.2⟩
  | [], _ :: _, _, h => h.elim
  | _ :: _, [], _, h => h.elim
theorem GridV.of {g : List (List Cell)} : ∀ {ys : List V}, ys.length = g.length → (∀ i, i < g.length → ∃ (r : Addr) (vals : List V), ys.getD i .non = .ref r ∧ F r = some (.lst vals) ∧ DpAll c.K F vals ((g.getD i []).map Cell.data)) → GridV c F ys g := by
  induction g with
  | nil => intro ys hl _; rw [List.length_eq_zero_iff.mp hl]; trivial
  | cons l g ih =>
    intro ys hl h
    match ys, hl with
    | y :: ys, hl => exact ⟨h 0 (Nat.succ_pos _), ih (Nat.succ.inj hl) fun i hi => h (i + 1) (Nat.succ_lt_succ hi)⟩
theorem PageAt.grid {F0 : Hp} {ys : List V} {S : Scr} (h : PageAt c F0 F ys S.rows) : GridV c F ys S.grid :=
  GridV.of (by unfold Scr.grid; rw [List.length_map]; exact h.1) fun i hi => by
    have hi' : i < S.rows.length := by unfold Scr.grid at hi; rwa [List.length_map] at hi
    obtain ⟨r, vals, a, _, d, e⟩ := h.2 i hi'
    exact ⟨r, vals, a, d, by rw [Scr.grid_at]; exact e⟩
theorem GridV.gridD {ys : List V} {g : List (List Cell)} {D : Addr} (hD : SqL c.K F D ys) (h : GridV c F ys g) : Dp c.K F (.ref D) (gridD g) := .lst hD h.dp
theorem gridD_sh {g : List (List Cell)} (h : ∀ l ∈ g, ∀ x ∈ l, x.Ok) : Sh 4 (gridD g) := .lst fun d hd => by
  obtain ⟨l, hl, rfl⟩ := List.mem_map.mp hd
  exact cells_sh (h l hl)
theorem grid_ok {S : Scr} (h : S.Ok) : ∀ l ∈ S.grid, ∀ x ∈ l, x.Ok := fun l hl => by
  obtain ⟨p, hp, rfl⟩ := List.mem_map.mp hl
  exact h.rows p hp
end
/-- A COMPREHENSION with a test: the items that pass, by Pi of those so far -/
theorem x_lcT {σ : L2.St} {F H : Hp} {L : List (Addr × HO)} {Q : VK} {J : It} {n : Nat} {item : Nat → V} {g : TG} {tt : TT} {te : TE} {vs : List Nat} (ok : ItOk J F n item) (W : Hold F L H) (hn : n ≤ 100000) (Pi : Nat → List V → Hp → Prop) (mono : ∀ i ys F F', Gr F F' → Pi i ys F → Pi i ys F') (h0 : Pi 0 [] F)
    (step : ∀ (d : Addr × HO) i ys F' H' (QQ : VK) (QN : Hp → Prop), i < n → Same F F' → Pi i ys F' → Hold F' (L ++ [d]) H' → (∀ y F4 H4, Same F' F4 → Hold F4 (L ++ [d]) H4 → Pi (i + 1) (ys ++ [y]) F4 → QQ y H4) → (∀ F4 H4, Same F' F4 → Hold F4 (L ++ [d]) H4 → Pi (i + 1) ys F4 → QN H4) →
      g (item i) (wipe σ vs) H' fun σ2 H2 => wipe σ2 vs = wipe σ vs ∧ tt σ2 H2 fun b H3 => if b = true then te σ2 H3 QQ else QN H3)
    (gm : ∀ x σ H (Q Q' : L2.St → Hp → Prop), (∀ σ' H', Q σ' H' → Q' σ' H') → g x σ H Q → g x σ H Q')
    (dn : ∀ (D : Addr) (ys : List V) (F' H' : Hp), Same F F' → Pi n ys F' → Hold F' ((D, .lst ys) :: L) H' → Q (.ref D) H') : aLc J g tt te vs σ H Q := by
  intro D hD
  refine ⟨fun i m H' => m = n - i ∧ i ≤ n ∧ ∃ ys F', Same F F' ∧ ys.length ≤ i ∧ Pi i ys F' ∧ Hold F' ((D, .lst ys) :: L) H', ⟨n, by simp, Nat.zero_le _, [], F, Same.refl F, Nat.le_refl _, h0, W.make hD⟩, ?_⟩
  rintro i m H1 ⟨rfl, hi, ys, F1, s1, hl, hv, W1⟩
  have q : Gr F H1 := (Gr.of s1).trans W1.gr
  by_cases hlt : i < n
  · refine .inr ⟨ok.go i H1 q hlt, fun H' => ∃ ys F', Same F F' ∧ ys.length ≤ i + 1 ∧ Pi (i + 1) ys F' ∧ Hold F' ((D, .lst ys) :: L) H', fun H' p' => ⟨n - (i + 1), by omega, rfl, hlt, p'⟩, fun x H' y => ?_⟩
    obtain ⟨rfl, rfl⟩ := ok.yld i H1 x H' q hlt y
    have W2 : Hold F1 (L ++ [(D, .lst ys)]) H' := W1.perm (List.perm_append_singleton _ _).symm
    refine step (D, .lst ys) i ys F1 H' (fun y H4 => ∃ acc, H4 D = some (.lst acc) ∧ acc.length < sizeLine ∧ (∃ ys F', Same F F' ∧ ys.length ≤ i + 1 ∧ Pi (i + 1) ys F' ∧ Hold F' ((D, .lst ys) :: L) (upd H4 D (.lst (acc ++ [y])))))
      (fun H' => ∃ ys F', Same F F' ∧ ys.length ≤ i + 1 ∧ Pi (i + 1) ys F' ∧ Hold F' ((D, .lst ys) :: L) H') hlt s1 hv W2 ?_ ?_
    · intro v F4 H4 s4 W4 hv4
      have W5 : Hold F4 ((D, .lst ys) :: L) H4 := W4.perm (List.perm_append_singleton _ _)
      exact ⟨ys, W5.get0, szlt (by omega), ys ++ [v], F4, s1.trans s4, by rw [List.length_append]; exact Nat.succ_le_succ hl, hv4, W5.put0⟩
    · intro F4 H4 s4 W4 hv4
      exact ⟨ys, F4, s1.trans s4, Nat.le_succ_of_le hl, hv4, W4.perm (List.perm_append_singleton _ _)⟩
  · have e : i = n := by omega
    subst e
    exact .inl ⟨ok.stop H1 q, dn D ys F1 H1 s1 hv W1⟩
/-- numbers that are powers -/
theorem l_powN {a b n : Nat} {H : Hp} {Q : VK} (hc : CPow (a : Int) (b : Int)) (e : a ^ b = n) (h : Q (.int (n : Nat)) H) : uPow (.int (a : Nat)) (.int (b : Nat)) H Q := l_powI hc (by rw [Int.toNat_natCast, ← Int.natCast_pow, e]; exact h)
theorem n_mid {K : PySem.W.Frag} {H F : Hp} {L : List (Addr × HO)} {Q : VK} {p : Addr} {xs : List V} {i j : Nat} (W : Hold F L H) (hp : SqL K H p xs) (k : ∀ (r : Addr) (F' H' : Hp), Same F F' → F' r = some (.lst ((xs.drop i).take (j - i))) → Hold F' L H' → Q (.ref r) H') : uSl K (.ref p) (some (i : Int)) (some (j : Int)) H Q :=
  n_slF W hp fun r F' H' s h W' => k r F' H' s (by rw [cutV_L, cutL_mid] at h; exact h) W'
/-- an own list's i-th item is another one -/
theorem x_setD {F H : Hp} {L : List (Addr × HO)} {D : Addr} {ys : List V} {i : Nat} {v : V} {QH : Hp → Prop} (W : Hold F ((D, .lst ys) :: L) H) (hi : i < ys.length) (q : ∀ H', Hold F ((D, .lst (ys.set i v)) :: L) H' → QH H') : rSetL (.ref D) (.int (i : Int)) v H QH :=
  x_setL W.get0 hi (q _ W.put0)
theorem scrL_in {c : Ctx} {F H : Hp} {s D : Addr} {C : ScrC} {S : Scr} {o : HO} {L : List (Addr × HO)} (W : Hold F (scrL c s C S ((D, o) :: L)) H) : H D = some o :=
  W.own (D, o) (List.mem_cons_of_mem _ (List.mem_cons_of_mem _ (List.mem_append_right _ List.mem_cons_self)))
theorem scrL_back {c : Ctx} {F H : Hp} {s : Addr} {x : Addr × HO} {C : ScrC} {S : Scr} {L : List (Addr × HO)} (W : Hold F (scrL c s C S (x :: L)) H) : Hold F (x :: scrL c s C S L) H := W.perm (scrL_out x).symm
theorem scrL_forth {c : Ctx} {F H : Hp} {s : Addr} {x : Addr × HO} {C : ScrC} {S : Scr} {L : List (Addr × HO)} (W : Hold F (x :: scrL c s C S L) H) : Hold F (scrL c s C S (x :: L)) H := W.perm (scrL_out x)
theorem rep_dp {K : PySem.W.Frag} {F : Hp} {v : V} (h : Dp K F v blankCell.data) (n : Nat) : DpAll K F (List.replicate n v) ((List.replicate n blankCell).map Cell.data) := by
  rw [List.map_replicate]; exact dp_rep h n
theorem dp_take {K : PySem.W.Frag} {F : Hp} {vs : List V} {l : List Cell} (n : Nat) (h : DpAll K F vs (l.map Cell.data)) : DpAll K F (vs.take n) ((l.take n).map Cell.data) := by
  rw [List.map_take]; exact dpAll_take n h
theorem dp_drop {K : PySem.W.Frag} {F : Hp} {vs : List V} {l : List Cell} (n : Nat) (h : DpAll K F vs (l.map Cell.data)) : DpAll K F (vs.drop n) ((l.drop n).map Cell.data) := by
  rw [List.map_drop]; exact dpAll_drop n h
theorem dp_app {K : PySem.W.Frag} {F : Hp} {vs ws : List V} {l m : List Cell} (h1 : DpAll K F vs (l.map Cell.data)) (h2 : DpAll K F ws (m.map Cell.data)) : DpAll K F (vs ++ ws) ((l ++ m).map Cell.data) := by
  rw [List.map_append]; exact dpAll_app h1 h2
theorem x_chainLe {σ : L2.St} {i : Nat} {x y z : Int} {H : Hp} {QB : VK} (hz : σ[i]? = some (some (.int z))) (q : QB (.bl (decide (x ≤ y ∧ y ≤ z))) H) : if decide (x ≤ y) = true then tVar i σ H (fun w' H4 => uLe (.int y) w' H4 QB) else QB (.bl false) H := by
  by_cases h1 : x ≤ y
  · rw [if_pos (decide_eq_true h1)]
    refine x_var hz (l_leI ?_)
    rw [show decide (y ≤ z) = decide (x ≤ y ∧ y ≤ z) by rw [Bool.eq_iff_iff, decide_eq_true_eq, decide_eq_true_eq]; exact ⟨fun h => ⟨h1, h⟩, fun h => h.2⟩]
    exact q
  · rw [if_neg (by simpa using h1)]
    rw [decide_eq_false (fun h => h1 h.1)] at q
    exact q
/-- if .. else .. with one promise -/
theorem x_ifP {ta tb : TE} {σ : L2.St} {H : Hp} {Q : VK} {b : Bool} (P : VK → Prop) (h1 : b = true → ∀ Q : VK, P Q → ta σ H Q) (h2 : b = false → ∀ Q : VK, P Q → tb σ H Q) (q : P Q) : if b = true then ta σ H Q else tb σ H Q := by
  cases b with
  | true => rw [if_pos rfl]; exact h1 rfl _ q
  | false => rw [if_neg Bool.false_ne_true]; exact h2 rfl _ q
theorem x_par3 {i j l : Nat} {tr : TA} {σ : L2.St} {H : Hp} {nx bk ct : L2.St → Hp → Prop} {rt : VK} (h : tr σ H fun vs H1 => ∃ u v w, vs = [u, v, w] ∧ nx (((σ.set i (some u)).set j (some v)).set l (some w)) H1) : tPar3 i j l tr ⟨nx, rt, bk, ct⟩ σ H := h
theorem x_par3' {u v w : V} {R : V → V → V → Prop} (h : R u v w) : ∃ u' v' w', [u, v, w] = [u', v', w'] ∧ R u' v' w' := ⟨u, v, w, rfl, h⟩
/-! ### lists of texts -/
abbrev SV (ls : List (List Nat)) : List V := ls.map fun l => .str (T l)
def svD (ls : List (List Nat)) : PyData := .list (ls.map fun l => .str (T l))
section
variable {K : PySem.W.Frag} {F H : Hp} {L : List (Addr × HO)} {Q : VK} {p q : Addr} {ls ms : List (List Nat)} {i j : Nat}
theorem sv_dpAll (ls : List (List Nat)) : DpAll K F (SV ls) (ls.map fun l => .str (T l)) := by
  induction ls with
  | nil => exact .nil
  | cons p l ih => exact .cons (.str _) ih
theorem sv_dp (h : SqL K F p (SV ls)) : Dp K F (.ref p) (svD ls) := .lst h (sv_dpAll ls)
theorem sv_sh (h : ∀ l ∈ ls, ∀ x ∈ l, x < 1114112) : Sh 1 (svD ls) := .lst fun d hd => by
  obtain ⟨l, hl, rfl⟩ := List.mem_map.mp hd
  exact .str (h l hl)
theorem n_toS (W : Hold F L H) (hp : H p = some (.lst (SV ls))) (k : ∀ (r : Addr) (F' H' : Hp), Same F F' → F' r = some (.lst (SV (ls.take i))) → Hold F' L H' → Q (.ref r) H') : uSl K (.ref p) none (some (i : Int)) H Q :=
  n_to W hp fun r F' H' s h W' => k r F' H' s (by rw [h, ← List.map_take]) W'
theorem n_fromS (W : Hold F L H) (hp : H p = some (.lst (SV ls))) (k : ∀ (r : Addr) (F' H' : Hp), Same F F' → F' r = some (.lst (SV (ls.drop i))) → Hold F' L H' → Q (.ref r) H') : uSl K (.ref p) (some (i : Int)) none H Q :=
  n_from W hp fun r F' H' s h W' => k r F' H' s (by rw [h, ← List.map_drop]) W'
theorem n_midS (W : Hold F L H) (hp : H p = some (.lst (SV ls))) (k : ∀ (r : Addr) (F' H' : Hp), Same F F' → F' r = some (.lst (SV ((ls.drop i).take (j - i)))) → Hold F' L H' → Q (.ref r) H') : uSl K (.ref p) (some (i : Int)) (some (j : Int)) H Q :=
  n_mid W (sq_of hp) fun r F' H' s h W' => k r F' H' s (by rw [h, ← List.map_drop, ← List.map_take]) W'
theorem n_addS (W : Hold F L H) (hp : H p = some (.lst (SV ls))) (hq : H q = some (.lst (SV ms))) (hl : ls.length + ms.length ≤ 100000) (k : ∀ (r : Addr) (F' H' : Hp), Same F F' → F' r = some (.lst (SV (ls ++ ms))) → Hold F' L H' → Q (.ref r) H') : uAdd K (.ref p) (.ref q) H Q :=
  n_addF W hp hq (by rw [List.length_map, List.length_map]; exact szl hl) fun r F' H' s h W' => k r F' H' s (by rw [h, ← List.map_append]) W'
theorem l_lenSV (hp : H p = some (.lst (SV ls))) (h : Q (.int (ls.length : Nat)) H) : uLen K [.ref p] H Q := l_lenL (sq_of hp) (by rw [List.length_map]; exact h)
theorem strs_of {P : List Nat → Prop} {n : Nat} : ∀ {ys : List V}, ys.length = n → (∀ i, i < n → ∃ l, ys.getD i .non = .str (T l) ∧ P l) → ∃ ls : List (List Nat), ls.length = n ∧ ys = SV ls ∧ ∀ l ∈ ls, P l := by
  induction n with
  | zero => intro ys hl _; exact ⟨[], rfl, List.length_eq_zero_iff.mp hl, fun _ z => nomatch z⟩
  | succ n ih =>
    intro ys hl h
    match ys, hl with
    | y :: ys, hl =>
      obtain ⟨l, e, hp⟩ := h 0 (Nat.succ_pos _)
      obtain ⟨ls, h1, h2, h3⟩ := ih (Nat.succ.inj hl) fun i hi => h (i + 1) (Nat.succ_lt_succ hi)
      refine ⟨l :: ls, congrArg Nat.succ h1, ?_, fun x hx => ?_⟩
      · have e' : y = .str (T l) := e
        rw [e', h2]; rfl
      · rcases List.mem_cons.mp hx with rfl | hx
        · exact hp
        · exact h3 x hx
theorem l_neSV (h1 : SqL K H p (SV ls)) (h2 : SqL K H q (SV ms)) (e : ls = ms) (hs : ∀ l ∈ ls, ∀ x ∈ l, x < 1114112) (kk : Q (.bl false) H) : uNe K (.ref p) (.ref q) H Q := by
  subst e
  have sh := sv_sh hs
  refine l_neD (sv_dp h1) (sv_dp h2) (sh.shaped (by decide)) (sh.shaped (by decide)) ?_
  rw [sh.eqv]; exact kk
end
end Ss
/-! ## cells are alike -/
namespace Ss
open PySem PySem.Spec PyProof.Rows L2
theorem cell_eqv (x y : Cell) : PyData.eqv x.data y.data = decide (x = y) := by
  obtain ⟨a, p, q, r⟩ := x
  obtain ⟨b, p', q', r'⟩ := y
  rw [Bool.eq_iff_iff, decide_eq_true_eq]
  simp [Cell.data, penData, PyData.eqv, PyData.eqvAll]
  intro _; omega
section
variable {K : PySem.W.Frag} {H : Hp} {Q : VK} {v w : V} {x y : Cell}
theorem l_eqCell (h1 : Dp K H v x.data) (h2 : Dp K H w y.data) (o1 : x.Ok) (o2 : y.Ok) (q : Q (.bl (decide (x = y))) H) : uEq K v w H Q :=
  l_eqD h1 h2 (o1.sh.shaped (by decide)) (o2.sh.shaped (by decide)) (by rw [cell_eqv]; exact q)
theorem l_neCell (h1 : Dp K H v x.data) (h2 : Dp K H w y.data) (o1 : x.Ok) (o2 : y.Ok) (q : Q (.bl (!decide (x = y))) H) : uNe K v w H Q :=
  l_neD h1 h2 (o1.sh.shaped (by decide)) (o2.sh.shaped (by decide)) (by rw [cell_eqv]; exact q)
end
end Ss
/-! ## Pages 0: loops whose turns make a pair; all([..]) -/
namespace Ss
open PySem PySem.Spec PyProof.Rows L2
open Ss in
local macro_rules | `(tactic| walk_at "r") => `(tactic| repeat (first
  | with_reducible refine x_seq ?_ | with_reducible refine x_asg ?_ | with_reducible refine x_var rfl ?_ | with_reducible refine x_c ?_ | with_reducible refine x_op ?_ | with_reducible refine x_name ?_ | with_reducible refine x_gcons ?_ | with_reducible refine x_gnil ?_
  | with_reducible refine x_cons ?_ | with_reducible refine x_nil ?_ | with_reducible refine x_cb ?_ | with_reducible refine x_ifs ?_ | with_reducible refine x_test ?_ | with_reducible refine x_bl ?_
  | with_reducible refine g_addNN ?_ | with_reducible refine g_addNL ?_ | with_reducible refine g_addLN ?_ | with_reducible refine l_addI ?_ | with_reducible refine l_subI ?_ | with_reducible refine g_ltNL ?_ | with_reducible refine l_ltI ?_ | with_reducible refine l_leI ?_ | with_reducible refine l_gtI ?_ | with_reducible refine l_geI ?_ | with_reducible refine l_eqX ?_ | with_reducible refine l_neX ?_ | with_reducible refine g_eqNL ?_ | with_reducible refine l_eqII ?_ | with_reducible refine l_neII ?_ | with_reducible refine l_eq rfl ?_ | with_reducible refine l_ne rfl ?_
  | with_reducible refine x_fld ?_ | with_reducible refine x_ret ?_ | with_reducible refine x_drop ?_ | with_reducible refine x_next ?_ | with_reducible refine x_tup ?_ | with_reducible refine x_lst ?_ | with_reducible refine x_f ?_ | with_reducible refine x_o ?_ | with_reducible refine x_n ?_
  | with_reducible refine x_bm ?_ | with_reducible refine x_bm0 ?_ | with_reducible refine x_m1 ?_ | with_reducible refine x_m0 ?_ | with_reducible refine x_isstr ?_ | with_reducible refine x_tystr ?_ | with_reducible refine x_sl ?_ | with_reducible refine x_part ?_ | with_reducible refine x_part' ?_ | with_reducible refine x_nopart ?_
  | with_reducible refine x_sfld ?_ | with_reducible refine x_if ?_ | with_reducible refine x_isty ?_ | with_reducible refine x_chain ?_ | with_reducible refine x_andV ?_ | with_reducible refine x_orV ?_ | with_reducible refine x_notV ?_ | with_reducible refine x_B ?_ | with_reducible refine x_and ?_ | with_reducible refine x_or ?_ | with_reducible refine x_not ?_ | with_reducible refine x_tru ?_ | with_reducible refine x_yes ?_
  | with_reducible refine x_un ?_ | with_reducible refine x_neg ?_ | with_reducible refine x_par ?_ | with_reducible refine x_par' ?_ | with_reducible refine x_retN ?_ | with_reducible refine x_brk ?_ | with_reducible refine x_cont ?_ | with_reducible refine x_rz ?_
  | with_reducible refine l_leS ?_ | with_reducible refine l_ltS ?_ | with_reducible refine l_inX ?_ | with_reducible refine l_niX ?_ | with_reducible refine l_inS ?_ | with_reducible refine l_niS ?_ | with_reducible refine l_count ?_ | with_reducible refine l_ord ?_ | with_reducible refine l_max ?_ | with_reducible refine l_min ?_ | with_reducible refine l_intI ?_ | with_reducible refine l_intB ?_ | with_reducible refine l_is ?_ | with_reducible refine l_isn ?_
  | with_reducible refine g_modNL (by decide) ?_ | with_reducible refine g_divNL (by decide) (by decide) ?_ | with_reducible refine l_modI (by decide) ?_ | with_reducible refine x_for ?_ | with_reducible refine x_lc ?_ | with_reducible refine x_ilist ?_ | with_reducible refine x_itup ?_ | with_reducible refine x_istr ?_ | with_reducible refine x_istr' ?_ | with_reducible refine x_irng1 ?_ | with_reducible refine x_irng2 ?_
  | (with_reducible refine x_get (by first | assumption | exact Hold.get0 (by assumption) | exact Hold.get1 (by assumption)) (by assumption) (by assumption) (by walk_at "fg") ?_)
  | (with_reducible refine x_ao (by first | assumption | exact Hold.get0 (by assumption) | exact Hold.get1 (by assumption)) (by kernel_rfl) ?_)
  | with_reducible refine x_ienum ?_ | with_reducible refine x_izip ?_ | with_reducible refine x_chain3 ?_
  | (with_reducible refine x_par2 ?_)
  | (with_reducible refine x_par3 ?_) | (with_reducible refine x_par3' ?_)))
/-- what an iterator walks that makes a tuple at each turn -/
structure ItTup (J : It) (F : Hp) (n : Nat) (item : Nat → List V) : Prop where
  go : ∀ i H, Gr F H → i < n → J.go i H
  stop : ∀ H, Gr F H → J.stop n H
  yld : ∀ i H x H', Gr F H → i < n → J.yld i H x H' → ∃ T, x = .ref T ∧ H T = none ∧ H' = upd H T (.tup (item i))
section
variable {K : PySem.W.Frag} {F H : Hp} {L : List (Addr × HO)} {a b : Addr} {xs ys : List V} {n : Nat} {item : Nat → List V} {J : It} {σ σ0 : L2.St} {g : TG} {tb : TS} {te : TE} {nx bk ct : L2.St → Hp → Prop} {rt Q : VK} {vs : List Nat} {QI : It → Hp → Prop}
theorem getD_of {l : List V} {i : Nat} {x : V} (h : l[i]? = some x) : l.getD i .non = x := by rw [List.getD_eq_getElem?_getD, h]; rfl
theorem ItTup.mono {F' : Hp} (o : ItTup J F n item) (g : Gr F F') : ItTup J F' n item := ⟨fun i H h => o.go i H (g.trans h), fun H h => o.stop H (g.trans h), fun i H x H' h => o.yld i H x H' (g.trans h)⟩
theorem ItTup.enum (h : SqL K F a xs) : ItTup (Ite K a) F xs.length (fun i => [.int (i : Nat), xs.getD i .non]) where
  go := fun i H g hi => ⟨xs, xs[i], g.sqL h, by simp [hi]⟩
  stop := fun H g => ⟨xs, g.sqL h, Nat.le_refl _⟩
  yld := fun i H x H' g hi y => by
    obtain ⟨T, z, e1, e2, e3, e4⟩ := y
    exact ⟨T, e1, e2, by rw [e3, getD_of (e4 xs (g.sqL h))]⟩
theorem ItTup.zipT (h1 : SqT K F a xs) (h2 : SqT K F b ys) (hl : xs.length = ys.length) : ItTup (RZ.ItzT K a b) F xs.length (fun i => [xs.getD i .non, ys.getD i .non]) where
  go := fun i H g hi => ⟨xs, ys, xs[i], ys[i]'(by omega), g.sqT h1, g.sqT h2, by simp [hi], by simp [show i < ys.length by omega]⟩
  stop := fun H g => ⟨xs, ys, g.sqT h1, g.sqT h2, .inl (Nat.le_refl _)⟩
  yld := fun i H x H' g hi y => by
    obtain ⟨T, z1, z2, e1, e2, e3, e4, e5⟩ := y
    exact ⟨T, e1, e2, by rw [e3, getD_of (e4 xs (g.sqT h1)), getD_of (e5 ys (g.sqT h2))]⟩
theorem x_ienum {tr : TA} (h : tr σ H fun vs H1 => ∃ a xs, vs = [.ref a] ∧ SqL K H1 a xs ∧ QI (Ite K a) H1) : iEnum K tr σ H QI := h
theorem x_ienum' {Pa : Addr → Prop} (hs : SqL K H a xs) (h : Pa a) : ∃ a' xs, [V.ref a] = [.ref a'] ∧ SqL K H a' xs ∧ Pa a' := ⟨a, xs, rfl, hs, h⟩
theorem x_izip {tr : TA} (h : tr σ H fun vs H1 => ∃ a b xs ys, vs = [.ref a, .ref b] ∧ ((SqL K H1 a xs ∧ SqL K H1 b ys ∧ QI (Itz K a b) H1) ∨ (SqT K H1 a xs ∧ SqT K H1 b ys ∧ QI (RZ.ItzT K a b) H1))) : RZ.iZipA K tr σ H QI := h
theorem x_izipT (h1 : SqT K H a xs) (h2 : SqT K H b ys) (h : QI (RZ.ItzT K a b) H) : ∃ a' b' xs ys, [V.ref a, V.ref b] = [.ref a', .ref b'] ∧ ((SqL K H a' xs ∧ SqL K H b' ys ∧ QI (Itz K a' b') H) ∨ (SqT K H a' xs ∧ SqT K H b' ys ∧ QI (RZ.ItzT K a' b') H)) := ⟨a, b, xs, ys, rfl, .inr ⟨h1, h2, h⟩⟩
/-- a for over such -/
theorem x_forT (ok : ItTup J F n item) (Pv : Nat → L2.St → Hp → Prop) (hg : ∀ i σ H, i ≤ n → Pv i σ H → Gr F H) (h0 : Pv 0 σ H)
    (hs : ∀ i σ H T, i < n → Pv i σ H → H T = none → g (.ref T) σ (upd H T (.tup (item i))) fun σ2 H2 => tb ⟨Pv (i + 1), rt, nx, Pv (i + 1)⟩ σ2 H2) (hd : ∀ σ H, Pv n σ H → nx σ H) : aFor J g tb ⟨nx, rt, bk, ct⟩ σ H := by
  refine ⟨fun i m σ H => m = n - i ∧ i ≤ n ∧ Pv i σ H, ⟨n, by simp, Nat.zero_le _, h0⟩, ?_⟩
  rintro i m σ H ⟨rfl, hi, p⟩
  have q := hg i σ H hi p
  by_cases hlt : i < n
  · refine .inr ⟨ok.go i H q hlt, Pv (i + 1), fun σ' H' p' => ⟨n - (i + 1), by omega, rfl, hlt, p'⟩, fun x H' y => ?_⟩
    obtain ⟨T, rfl, hT, rfl⟩ := ok.yld i H x H' q hlt y
    exact hs i σ H T hlt p hT
  · have e : i = n := by omega
    subst e
    exact .inl ⟨ok.stop H q, hd σ H p⟩
/-- a comprehension over such, without a test -/
theorem x_lcZ (ok : ItTup J F n item) (W : Hold F L H) (hn : n ≤ 100000) (val : Nat → V → Hp → Prop) (mono : ∀ i v F F', Gr F F' → val i v F → val i v F')
    (step : ∀ (d : Addr × HO) i T F' H' (QQ : VK), i < n → Same F F' → F' T = some (.tup (item i)) → Hold F' (L ++ [d]) H' → (∀ y F4 H4, Same F' F4 → Hold F4 (L ++ [d]) H4 → val i y F4 → QQ y H4) → g (.ref T) (wipe σ vs) H' fun σ2 H2 => wipe σ2 vs = wipe σ vs ∧ te σ2 H2 QQ)
    (gm : ∀ x σ H (Q Q' : L2.St → Hp → Prop), (∀ σ' H', Q σ' H' → Q' σ' H') → g x σ H Q → g x σ H Q')
    (done : ∀ (D : Addr) (ys : List V) (F' H' : Hp), Same F F' → ys.length = n → (∀ i, i < n → val i (ys.getD i .non) F') → Hold F' ((D, .lst ys) :: L) H' → Q (.ref D) H') : aLc J g tYes te vs σ H Q := by
  intro D hD
  refine ⟨fun i m H' => m = n - i ∧ i ≤ n ∧ ∃ ys F', Same F F' ∧ ys.length = i ∧ (∀ j, j < i → val j (ys.getD j .non) F') ∧ Hold F' ((D, .lst ys) :: L) H', ⟨n, by simp, Nat.zero_le _, [], F, Same.refl F, rfl, fun j h => absurd h (Nat.not_lt_zero _), W.make hD⟩, ?_⟩
  rintro i m H1 ⟨rfl, hi, ys, F1, s1, hl, hv, W1⟩
  have q : Gr F H1 := (Gr.of s1).trans W1.gr
  by_cases hlt : i < n
  · refine .inr ⟨ok.go i H1 q hlt, fun H' => ∃ ys F', Same F F' ∧ ys.length = i + 1 ∧ (∀ j, j < i + 1 → val j (ys.getD j .non) F') ∧ Hold F' ((D, .lst ys) :: L) H', fun H' p' => ⟨n - (i + 1), by omega, rfl, hlt, p'⟩, fun x H' y => ?_⟩
    obtain ⟨T, rfl, hT, rfl⟩ := ok.yld i H1 x H' q hlt y
    have W0 := W1.alloc (o := .tup (item i)) hT
    have nF : F1 T = none := W1.fresh hT
    have s01 : Same F1 (upd F1 T (.tup (item i))) := same_new nF
    have hT1 : (upd F1 T (.tup (item i))) T = some (.tup (item i)) := upd_same
    generalize upd F1 T (.tup (item i)) = F2 at W0 s01 hT1
    have W2 : Hold F2 (L ++ [(D, .lst ys)]) (upd H1 T (.tup (item i))) := W0.perm (List.perm_append_singleton _ _).symm
    refine gm _ _ _ _ _ (fun σ2 H2 z => ⟨z.1, ?_⟩) (step (D, .lst ys) i T F2 _ (fun y H4 => ∃ acc, H4 D = some (.lst acc) ∧ acc.length < sizeLine ∧ (∃ ys F', Same F F' ∧ ys.length = i + 1 ∧ (∀ j, j < i + 1 → val j (ys.getD j .non) F') ∧ Hold F' ((D, .lst ys) :: L) (upd H4 D (.lst (acc ++ [y]))))) hlt (s1.trans s01) hT1 W2 ?_)
    · exact x_yes (wT rfl z.2)
    · intro v F4 H4 s4 W4 hv4
      have W5 : Hold F4 ((D, .lst ys) :: L) H4 := W4.perm (List.perm_append_singleton _ _)
      refine ⟨ys, W5.get0, szlt (by omega), ys ++ [v], F4, (s1.trans s01).trans s4, by rw [List.length_append, hl]; rfl, fun j hj => ?_, W5.put0⟩
      by_cases hji : j < i
      · have e : (ys ++ [v]).getD j .non = ys.getD j .non := by rw [List.getD_eq_getElem?_getD, List.getElem?_append_left (by omega), List.getD_eq_getElem?_getD]
        rw [e]
        exact mono j _ F1 F4 (Gr.of (s01.trans s4)) (hv j hji)
      · have e : j = ys.length := by omega
        have e2 : (ys ++ [v]).getD j .non = v := by rw [e, List.getD_eq_getElem?_getD]; simp
        rw [e2, show j = i by omega]
        exact hv4
  · have e : i = n := by omega
    subst e
    exact .inl ⟨ok.stop H1 q, done D ys F1 H1 s1 hl hv W1⟩
theorem gm_tup {k : Nat} {ts : TGs} (h : ∀ xs σ H (Q Q' : L2.St → Hp → Prop), (∀ σ' H', Q σ' H' → Q' σ' H') → ts xs σ H Q → ts xs σ H Q') : ∀ x σ H (Q Q' : L2.St → Hp → Prop), (∀ σ' H', Q σ' H' → Q' σ' H') → gTup K k ts x σ H Q → gTup K k ts x σ H Q' := fun x σ H Q Q' hq ⟨a, xs, h1, h2, h3, h4⟩ => ⟨a, xs, h1, h2, h3, h _ _ _ _ _ hq h4⟩
theorem gm_two {i j : Nat} : ∀ xs σ H (Q Q' : L2.St → Hp → Prop), (∀ σ' H', Q σ' H' → Q' σ' H') → gCons (gName i) (gCons (gName j) gNil) xs σ H Q → gCons (gName i) (gCons (gName j) gNil) xs σ H Q' := fun xs σ H Q Q' hq ⟨v, r, e, v2, r2, e2, e3, h⟩ => ⟨v, r, e, v2, r2, e2, e3, hq _ _ h⟩
theorem bls_of {n : Nat} {p : Nat → Bool} : ∀ {ys : List V}, ys.length = n → (∀ i, i < n → ys.getD i .non = .bl (p i)) → ys = ((List.range n).map p).map V.bl := fun {ys} hl h => by
  refine List.ext_getElem? fun j => ?_
  by_cases hj : j < n
  · have a1 := h j hj
    rw [List.getD_eq_getElem?_getD, List.getElem?_eq_getElem (by omega)] at a1
    rw [List.getElem?_eq_getElem (by omega), List.getElem?_map, List.getElem?_map, List.getElem?_range hj]
    exact congrArg some a1
  · rw [List.getElem?_eq_none (by omega), List.getElem?_eq_none (by simp; omega)]
theorem all_range {n : Nat} {p : Nat → Bool} : ((List.range n).map p).all id = (List.range n).all p := by rw [List.all_map]; rfl
theorem all_getD {α : Type} {p : α → Bool} {d : α} (l : List α) : (List.range l.length).all (fun i => p (l.getD i d)) = l.all p := by
  rw [Bool.eq_iff_iff, List.all_eq_true, List.all_eq_true]
  refine ⟨fun h x hx => ?_, fun h i hi => ?_⟩
  · obtain ⟨i, hi, rfl⟩ := List.getElem_of_mem hx
    have z := h i (List.mem_range.mpr hi)
    rw [List.getD_eq_getElem?_getD, List.getElem?_eq_getElem hi] at z; exact z
  · exact h _ (getD_mem (List.mem_range.mp hi))
/-- all([te for g in J]) -/
theorem x_allc {item : Nat → V} {p : Nat → Bool} (ok : ItOk J F n item) (W : Hold F L H) (hn : n ≤ 100000)
    (step : ∀ (d : Addr × HO) i F' H' (QQ : VK), i < n → Same F F' → Hold F' (L ++ [d]) H' → (∀ F4 H4, Same F' F4 → Hold F4 (L ++ [d]) H4 → QQ (.bl (p i)) H4) → g (item i) (wipe σ vs) H' fun σ2 H2 => wipe σ2 vs = wipe σ vs ∧ te σ2 H2 QQ)
    (gm : ∀ x σ H (Q Q' : L2.St → Hp → Prop), (∀ σ' H', Q σ' H' → Q' σ' H') → g x σ H Q → g x σ H Q')
    (dn : ∀ F' H', Same F F' → Hold F' L H' → Q (.bl ((List.range n).all p)) H') : aLc J g tYes te vs σ H (fun x H1 => tNil σ0 H1 fun xs H2 => rAll K (x :: xs) H2 Q) := by
  refine x_lcOk ok W hn (fun i v _ => v = .bl (p i)) (fun _ _ _ _ _ h => h) (fun d i F' H' QQ hi s W' kq => ?_) gm (fun D ys F' H' s hl hv W' => ?_)
  · exact step d i F' H' QQ hi s W' fun F4 H4 s4 W4 => kq _ F4 H4 s4 W4 rfl
  · rw [bls_of hl hv] at W'
    exact ⟨D, _, rfl, sq_of W'.get0, by rw [all_range]; exact dn F' H' s W'.drop⟩
theorem x_allz {p : Nat → Bool} (ok : ItTup J F n item) (W : Hold F L H) (hn : n ≤ 100000)
    (step : ∀ (d : Addr × HO) i T F' H' (QQ : VK), i < n → Same F F' → F' T = some (.tup (item i)) → Hold F' (L ++ [d]) H' → (∀ F4 H4, Same F' F4 → Hold F4 (L ++ [d]) H4 → QQ (.bl (p i)) H4) → g (.ref T) (wipe σ vs) H' fun σ2 H2 => wipe σ2 vs = wipe σ vs ∧ te σ2 H2 QQ)
    (gm : ∀ x σ H (Q Q' : L2.St → Hp → Prop), (∀ σ' H', Q σ' H' → Q' σ' H') → g x σ H Q → g x σ H Q')
    (dn : ∀ F' H', Same F F' → Hold F' L H' → Q (.bl ((List.range n).all p)) H') : aLc J g tYes te vs σ H (fun x H1 => tNil σ0 H1 fun xs H2 => rAll K (x :: xs) H2 Q) := by
  refine x_lcZ ok W hn (fun i v _ => v = .bl (p i)) (fun _ _ _ _ _ h => h) (fun d i T F' H' QQ hi s hT W' kq => ?_) gm (fun D ys F' H' s hl hv W' => ?_)
  · exact step d i T F' H' QQ hi s hT W' fun F4 H4 s4 W4 => kq _ F4 H4 s4 W4 rfl
  · rw [bls_of hl hv] at W'
    exact ⟨D, _, rfl, sq_of W'.get0, by rw [all_range]; exact dn F' H' s W'.drop⟩
end
end Ss
/-! ## other sizes 1: lines, blanks, what is trimmed -/
namespace Ss
open PySem PySem.Spec PyProof.Rows L2
/-! ### the attributes of a Line -/
def fsLine (x0 x1 : V) : List (Str × V) := [("cells", x0), ("place", x1)]
theorem fsLine_len {x0 x1 : V} : (fsLine x0 x1).length < 1000 := by show 2 < 1000; decide
theorem fsLine_g0 {x0 x1 : V} : (fsLine x0 x1).lookup ("cells" : Str) = some x0 := by kernel_rfl
theorem fsLine_p0 {x0 x1 y : V} : putF "cells" y (fsLine x0 x1) = fsLine y x1 := by kernel_rfl
theorem fsLine_g1 {x0 x1 : V} : (fsLine x0 x1).lookup ("place" : Str) = some x1 := by kernel_rfl
theorem fsLine_p1 {x0 x1 y : V} : putF "place" y (fsLine x0 x1) = fsLine x0 y := by kernel_rfl
/-- what is asked of the class -/
structure FLine (c : Ctx) : Prop where
  cl : Cls c.K c.cLine
  n_cells : NoAttr c.K c.cLine "cells"
  n_place : NoAttr c.K c.cLine "place"

open Ss in
local macro_rules | `(tactic| walk_at "fg") => `(tactic| first | with_reducible exact fsLine_g0 | with_reducible exact fsLine_g1 | with_reducible exact fsScreen_g0 | with_reducible exact fsScreen_g1 | with_reducible exact fsScreen_g2 | with_reducible exact fsScreen_g3 | with_reducible exact fsScreen_g4 | with_reducible exact fsScreen_g5 | with_reducible exact fsScreen_g6 | with_reducible exact fsScreen_g7 | with_reducible exact fsScreen_g8 | with_reducible exact fsScreen_g9 | with_reducible exact fsScreen_g10 | with_reducible exact fsScreen_g11 | with_reducible exact fsScreen_g12 | with_reducible exact fsScreen_g13 | with_reducible exact fsRow_g0 | with_reducible exact fsRow_g1)
open Ss in
local macro_rules | `(tactic| walk_at "r") => `(tactic| repeat (first
  | with_reducible refine x_seq ?_ | with_reducible refine x_asg ?_ | with_reducible refine x_var rfl ?_ | with_reducible refine x_c ?_ | with_reducible refine x_op ?_ | with_reducible refine x_name ?_ | with_reducible refine x_gcons ?_ | with_reducible refine x_gnil ?_
  | with_reducible refine x_cons ?_ | with_reducible refine x_nil ?_ | with_reducible refine x_cb ?_ | with_reducible refine x_ifs ?_ | with_reducible refine x_test ?_ | with_reducible refine x_bl ?_
  | with_reducible refine g_addNN ?_ | with_reducible refine g_addNL ?_ | with_reducible refine g_addLN ?_ | with_reducible refine l_addI ?_ | with_reducible refine l_subI ?_ | with_reducible refine g_ltNL ?_ | with_reducible refine l_ltI ?_ | with_reducible refine l_leI ?_ | with_reducible refine l_gtI ?_ | with_reducible refine l_geI ?_ | with_reducible refine l_eqX ?_ | with_reducible refine l_neX ?_ | with_reducible refine g_eqNL ?_ | with_reducible refine l_eqII ?_ | with_reducible refine l_neII ?_ | with_reducible refine l_eq rfl ?_ | with_reducible refine l_ne rfl ?_
  | with_reducible refine x_fld ?_ | with_reducible refine x_ret ?_ | with_reducible refine x_drop ?_ | with_reducible refine x_next ?_ | with_reducible refine x_tup ?_ | with_reducible refine x_lst ?_ | with_reducible refine x_f ?_ | with_reducible refine x_o ?_ | with_reducible refine x_n ?_
  | with_reducible refine x_bm ?_ | with_reducible refine x_bm0 ?_ | with_reducible refine x_m1 ?_ | with_reducible refine x_m0 ?_ | with_reducible refine x_isstr ?_ | with_reducible refine x_tystr ?_ | with_reducible refine x_sl ?_ | with_reducible refine x_part ?_ | with_reducible refine x_part' ?_ | with_reducible refine x_nopart ?_
  | with_reducible refine x_sfld ?_ | with_reducible refine x_if ?_ | with_reducible refine x_isty ?_ | with_reducible refine x_chain ?_ | with_reducible refine x_andV ?_ | with_reducible refine x_orV ?_ | with_reducible refine x_notV ?_ | with_reducible refine x_B ?_ | with_reducible refine x_and ?_ | with_reducible refine x_or ?_ | with_reducible refine x_not ?_ | with_reducible refine x_tru ?_ | with_reducible refine x_yes ?_
  | with_reducible refine x_un ?_ | with_reducible refine x_neg ?_ | with_reducible refine x_par ?_ | with_reducible refine x_par' ?_ | with_reducible refine x_retN ?_ | with_reducible refine x_brk ?_ | with_reducible refine x_cont ?_ | with_reducible refine x_rz ?_
  | with_reducible refine l_leS ?_ | with_reducible refine l_ltS ?_ | with_reducible refine l_inX ?_ | with_reducible refine l_niX ?_ | with_reducible refine l_inS ?_ | with_reducible refine l_niS ?_ | with_reducible refine l_count ?_ | with_reducible refine l_ord ?_ | with_reducible refine l_max ?_ | with_reducible refine l_min ?_ | with_reducible refine l_intI ?_ | with_reducible refine l_intB ?_ | with_reducible refine l_is ?_ | with_reducible refine l_isn ?_
  | with_reducible refine g_modNL (by decide) ?_ | with_reducible refine g_divNL (by decide) (by decide) ?_ | with_reducible refine l_modI (by decide) ?_ | with_reducible refine x_for ?_ | with_reducible refine x_lc ?_ | with_reducible refine x_ilist ?_ | with_reducible refine x_itup ?_ | with_reducible refine x_istr ?_ | with_reducible refine x_istr' ?_ | with_reducible refine x_irng1 ?_ | with_reducible refine x_irng2 ?_
  | (with_reducible refine x_get (by first | assumption | exact Hold.get0 (by assumption) | exact Hold.get1 (by assumption)) (by assumption) (by assumption) (by walk_at "fg") ?_)
  | (with_reducible refine x_ao (by first | assumption | exact Hold.get0 (by assumption) | exact Hold.get1 (by assumption)) (by kernel_rfl) ?_)
  | with_reducible refine x_ienum ?_ | with_reducible refine x_izip ?_ | with_reducible refine x_chain3 ?_
  | (with_reducible refine x_par2 ?_)
  | (with_reducible refine x_par3 ?_) | (with_reducible refine x_par3' ?_)))
def isBl (p : PRow) : Bool := p.cells.all fun x => decide (x = blankCell)
def trimN (l : List Cell) (least : Nat) : Nat → Nat
  | 0 => 0
  | n + 1 => if least < n + 1 ∧ l.getD n blankCell = blankCell then trimN l least n else n + 1
def trimL (l : List Cell) (least : Nat) : List Cell := l.take (trimN l least l.length)
def Pin (c : Ctx) (F : Hp) (r : RowC) : Prop := F r.a = some (rowO c r.dx r.cl r.row.goes) ∧ F r.cl = some (.lst r.vals) ∧ cellsAt c F r
theorem Pin.gr {c : Ctx} {F F' : Hp} {r : RowC} (g : Gr F F') (h : Pin c F r) : Pin c F' r := ⟨g.ins h.1, g.lst h.2.1, g.dpAll h.2.2⟩
structure Ln where
  cells : List Cell
  place : Option Nat
def placeV : Option Nat → V
  | none => .non
  | some n => .int (n : Nat)
abbrev lineO (c : Ctx) (dx q : Addr) (p : Option Nat) : HO := .ins c.cLine dx (fsLine (.ref q) (placeV p))
def LineAt (c : Ctx) (F : Hp) (v : V) (l : Ln) : Prop := ∃ a dx q vals, v = .ref a ∧ F a = some (lineO c dx q l.place) ∧ F q = some (.lst vals) ∧ DpAll c.K F vals (l.cells.map Cell.data)
theorem LineAt.gr {c : Ctx} {F F' : Hp} {v : V} {l : Ln} (g : Gr F F') (h : LineAt c F v l) : LineAt c F' v l := let ⟨a, dx, q, vals, e, h1, h2, h3⟩ := h; ⟨a, dx, q, vals, e, g.ins h1, g.lst h2, g.dpAll h3⟩
/-- D.append(v) of one's own -/
theorem x_push {F H : Hp} {L : List (Addr × HO)} {Q : VK} {D : Addr} {ys : List V} {v : V} (W : Hold F ((D, .lst ys) :: L) H) (hl : ys.length < 100000) (q : ∀ H', Hold F ((D, .lst (ys ++ [v])) :: L) H' → Q .non H') : rAppend (.ref D) [v] H Q :=
  ⟨D, ys, v, rfl, rfl, W.get0, szlt hl, q _ W.put0⟩
def sp_Line_init (c : Ctx) : Sp := fun vs H Q _ => ∃ a dx q F L, vs = [.ref a, .ref q, .non] ∧ Hold F ((a, .ins c.cLine dx []) :: L) H ∧ ∀ H', Hold F ((a, lineO c dx q none) :: L) H' → Q .non H'
def sp_is_blank (c : Ctx) : Sp := fun vs H Q _ => ∃ (r : RowC) (F : Hp) (L : List (Addr × HO)), vs = [.ref r.a] ∧ Pin c F r ∧ r.row.Ok ∧ r.row.cells.length ≤ 60 ∧ Hold F L H ∧ ∀ F' H', Same F F' → Hold F' L H' → Q (.bl (isBl r.row)) H'
def sp_trimmed (c : Ctx) : Sp := fun vs H Q _ => ∃ (p : Addr) (vals : List V) (l : List Cell) (k : Nat) (F : Hp) (L : List (Addr × HO)), vs = [.ref p, .int (k : Nat)] ∧ F p = some (.lst vals) ∧ DpAll c.K F vals (l.map Cell.data) ∧ (∀ x ∈ l, x.Ok) ∧ Hold F L H ∧
  ∀ r vals' F' H', Same F F' → F' r = some (.lst vals') → DpAll c.K F' vals' ((trimL l k).map Cell.data) → Hold F' L H' → Q (.ref r) H'
def t_Line_init (c : Ctx) (E : XK) : TS :=
  (tSeq (sFld c.K (tVar 0) (tVar 1) "cells")
  (sFld c.K (tVar 0) (tVar 2) "place"))
abbrev N_Line_init : List Str := ["self", "cells", "place"]

def t_is_blank (c : Ctx) (E : XK) : TS :=
  (tRet (tCB (rAll c.K) (tCons (tLc (iList c.K (tFld c.K (tVar 0) "cells")) (gName 1) tYes (tOp (uEq c.K) (tVar 1) (tC (v_BLANK c))) [1]) tNil)))
abbrev N_is_blank : List Str := ["row", "cell"]

def t_trimmed (c : Ctx) (E : XK) : TS :=
  (tSeq (tAsg (tCB (uLen c.K) (tCons (tVar 0) tNil)) (gName 2))
  (tSeq (tWhile (tAnd (tTest (tOp uGt (tVar 2) (tVar 1))) (tTest (tOp (uEq c.K) (tOp (uIx c.K) (tVar 0) (tOp uSub (tVar 2) (tC (.int 1)))) (tC (v_BLANK c))))) (tAsg (tOp uSub (tVar 2) (tC (.int 1))) (gName 2)))
  (tRet (tSl (uSl c.K) (tVar 0) tNoPart (tPart (tVar 2))))))
abbrev N_trimmed : List Str := ["cells", "least", "many"]

section
variable {c : Ctx}
theorem rd_Line_init (R : FLine c) : RD N_Line_init (t_Line_init c) (sp_Line_init c) := by
  have cl := R.cl
  rintro vs H Q E ⟨a, dx, q, F, L, rfl, W, kk⟩
  unfold t_Line_init
  walk_at "r"
  refine x_put0 (fs' := [("cells", .ref q)]) W cl R.n_cells (by show 0 < 1000; decide) (by kernel_rfl) fun H1 W1 => ?_
  walk_at "r"
  refine x_put0 (fs' := fsLine (.ref q) .non) W1 cl R.n_place (by show 1 < 1000; decide) (by kernel_rfl) fun H2 W2 => ?_
  exact kk H2 W2
theorem rd_is_blank (U : Tups c) (RR : FRow c) : RD N_is_blank (t_is_blank c) (sp_is_blank c) := by
  have cl := RR.cl
  have n1 := RR.n_cells
  rintro vs H Q E ⟨r, F, L, rfl, ⟨h1, h2, h3⟩, ok, hl, W, kk⟩
  unfold t_is_blank
  walk_at "r"
  refine x_get (W.old _ _ h1) cl n1 fsRow_g0 ?_
  refine x_ilist' (sq_of (W.old _ _ h2)) ?_
  have hvl := dpAll_len h3
  rw [List.length_map] at hvl
  refine x_allc (F := F) (p := fun i => decide (r.row.cells.getD i blankCell = blankCell)) (ItOk.list (sq_of h2)) W (by omega) (fun d i F' H' QQ hi s W' kq => ?_) gm_name (fun F1 H1 e1 W1 => ?_)
  · refine ⟨wipe1, ?_⟩
    have hi' : i < r.row.cells.length := by omega
    have hd := (Gr.of s).dp (dpAll_get h3 i (by rw [List.length_map]; exact hi'))
    rw [getD_map (d := blankCell) hi'] at hd
    walk_at "r"
    exact l_eqCell (W'.gr.dp hd) (W'.gr.dp (U.blank F')) (ok _ (getD_mem hi')) blank_ok (kq F' H' (Same.refl F') W')
  rw [hvl, all_getD (d := blankCell) (p := fun x => decide (x = blankCell))]
  exact kk F1 H1 e1 W1
theorem rd_trimmed (U : Tups c) : RD N_trimmed (t_trimmed c) (sp_trimmed c) := by
  rintro vs H Q E ⟨p, vals, l, k, F, L, rfl, hp, hd, ok, W, kk⟩
  have hvl := dpAll_len hd
  rw [List.length_map] at hvl
  unfold t_trimmed
  walk_at "r"
  refine l_lenL (sq_of (W.old _ _ hp)) ?_
  rw [hvl]
  walk_at "r"
  refine x_while (fun m σ H' => ∃ F', σ = [some (.ref p), some (.int (k : Nat)), some (.int (m : Nat))] ∧ m ≤ l.length ∧ trimN l k l.length = trimN l k m ∧ Same F F' ∧ Hold F' L H') l.length ⟨F, rfl, Nat.le_refl _, rfl, Same.refl F, W⟩ ?_
  rintro m σ H1 ⟨F1, rfl, hm, ht, s1, W1⟩
  walk_at "r"
  have out : trimN l k l.length = m → tRet (tSl (uSl c.K) (tVar 0) tNoPart (tPart (tVar 2))) ⟨fun x H' => Q V.non H', Q, fun _ _ => False, fun _ _ => False⟩ [some (.ref p), some (.int (k : Nat)), some (.int (m : Nat))] H1 := fun e => by
    walk_at "r"
    refine n_to W1 (W1.old _ _ (s1 _ _ hp)) fun r F2 H2 e2 h2 W2 => ?_
    refine kk r _ F2 H2 (s1.trans e2) h2 ?_ W2
    unfold trimL
    rw [e, List.map_take]
    exact dpAll_take m ((Gr.of (s1.trans e2)).dpAll hd)
  refine wD (fun h => ?_) (fun h => ?_)
  · obtain ⟨n, rfl⟩ : ∃ n, m = n + 1 := ⟨m - 1, by omega⟩
    have hn : n < l.length := by omega
    walk_at "r"
    rw [show (((n + 1 : Nat) : Int) - 1) = ((n : Nat) : Int) by omega]
    refine g_ixL (sq_of (W1.old _ _ (s1 _ _ hp))) (by rw [hvl]; exact hn) ?_
    have hx := (Gr.of s1).dp (dpAll_get hd n (by rw [List.length_map]; exact hn))
    rw [getD_map (d := blankCell) hn] at hx
    walk_at "r"
    refine l_eqCell (W1.gr.dp hx) (W1.gr.dp (U.blank F1)) (ok _ (getD_mem hn)) blank_ok ?_
    walk_at "r"
    refine wD (fun hb => ?_) (fun hb => ?_)
    · refine x_wN ?_
      walk_at "r"
      rw [show (((n + 1 : Nat) : Int) - 1) = ((n : Nat) : Int) by omega]
      refine ⟨n, Nat.lt_succ_self n, F1, rfl, by omega, ?_, s1, W1⟩
      rw [ht]
      show (if k < n + 1 ∧ l.getD n blankCell = blankCell then trimN l k n else n + 1) = _
      rw [if_pos ⟨by omega, hb⟩]
    · refine out ?_
      rw [ht]
      show (if k < n + 1 ∧ l.getD n blankCell = blankCell then trimN l k n else n + 1) = _
      rw [if_neg fun z => hb z.2]
  · refine wF rfl ?_
    refine out ?_
    rw [ht]
    cases m with
    | zero => rfl
    | succ n =>
      show (if k < n + 1 ∧ l.getD n blankCell = blankCell then trimN l k n else n + 1) = _
      rw [if_neg fun z => h (by have := z.1; omega)]
end
end Ss
/-! ## other sizes 2: the lines of a screen -/
namespace Ss
open PySem PySem.Spec PyProof.Rows L2
open Ss in
local macro_rules | `(tactic| walk_at "fg") => `(tactic| first | with_reducible exact fsLine_g0 | with_reducible exact fsLine_g1 | with_reducible exact fsScreen_g0 | with_reducible exact fsScreen_g1 | with_reducible exact fsScreen_g2 | with_reducible exact fsScreen_g3 | with_reducible exact fsScreen_g4 | with_reducible exact fsScreen_g5 | with_reducible exact fsScreen_g6 | with_reducible exact fsScreen_g7 | with_reducible exact fsScreen_g8 | with_reducible exact fsScreen_g9 | with_reducible exact fsScreen_g10 | with_reducible exact fsScreen_g11 | with_reducible exact fsScreen_g12 | with_reducible exact fsScreen_g13 | with_reducible exact fsRow_g0 | with_reducible exact fsRow_g1)
open Ss in
local macro_rules | `(tactic| walk_at "r") => `(tactic| repeat (first
  | with_reducible refine x_seq ?_ | with_reducible refine x_asg ?_ | with_reducible refine x_var rfl ?_ | with_reducible refine x_c ?_ | with_reducible refine x_op ?_ | with_reducible refine x_name ?_ | with_reducible refine x_gcons ?_ | with_reducible refine x_gnil ?_
  | with_reducible refine x_cons ?_ | with_reducible refine x_nil ?_ | with_reducible refine x_cb ?_ | with_reducible refine x_ifs ?_ | with_reducible refine x_test ?_ | with_reducible refine x_bl ?_
  | with_reducible refine g_addNN ?_ | with_reducible refine g_addNL ?_ | with_reducible refine g_addLN ?_ | with_reducible refine l_addI ?_ | with_reducible refine l_subI ?_ | with_reducible refine g_ltNL ?_ | with_reducible refine l_ltI ?_ | with_reducible refine l_leI ?_ | with_reducible refine l_gtI ?_ | with_reducible refine l_geI ?_ | with_reducible refine l_eqX ?_ | with_reducible refine l_neX ?_ | with_reducible refine g_eqNL ?_ | with_reducible refine l_eqII ?_ | with_reducible refine l_neII ?_ | with_reducible refine l_eq rfl ?_ | with_reducible refine l_ne rfl ?_
  | with_reducible refine x_fld ?_ | with_reducible refine x_ret ?_ | with_reducible refine x_drop ?_ | with_reducible refine x_next ?_ | with_reducible refine x_tup ?_ | with_reducible refine x_lst ?_ | with_reducible refine x_f ?_ | with_reducible refine x_o ?_ | with_reducible refine x_n ?_
  | with_reducible refine x_bm ?_ | with_reducible refine x_bm0 ?_ | with_reducible refine x_m1 ?_ | with_reducible refine x_m0 ?_ | with_reducible refine x_isstr ?_ | with_reducible refine x_tystr ?_ | with_reducible refine x_sl ?_ | with_reducible refine x_part ?_ | with_reducible refine x_part' ?_ | with_reducible refine x_nopart ?_
  | with_reducible refine x_sfld ?_ | with_reducible refine x_if ?_ | with_reducible refine x_isty ?_ | with_reducible refine x_chain ?_ | with_reducible refine x_andV ?_ | with_reducible refine x_orV ?_ | with_reducible refine x_notV ?_ | with_reducible refine x_B ?_ | with_reducible refine x_and ?_ | with_reducible refine x_or ?_ | with_reducible refine x_not ?_ | with_reducible refine x_tru ?_ | with_reducible refine x_yes ?_
  | with_reducible refine x_un ?_ | with_reducible refine x_neg ?_ | with_reducible refine x_par ?_ | with_reducible refine x_par' ?_ | with_reducible refine x_retN ?_ | with_reducible refine x_brk ?_ | with_reducible refine x_cont ?_ | with_reducible refine x_rz ?_
  | with_reducible refine l_leS ?_ | with_reducible refine l_ltS ?_ | with_reducible refine l_inX ?_ | with_reducible refine l_niX ?_ | with_reducible refine l_inS ?_ | with_reducible refine l_niS ?_ | with_reducible refine l_count ?_ | with_reducible refine l_ord ?_ | with_reducible refine l_max ?_ | with_reducible refine l_min ?_ | with_reducible refine l_intI ?_ | with_reducible refine l_intB ?_ | with_reducible refine l_is ?_ | with_reducible refine l_isn ?_
  | with_reducible refine g_modNL (by decide) ?_ | with_reducible refine g_divNL (by decide) (by decide) ?_ | with_reducible refine l_modI (by decide) ?_ | with_reducible refine x_for ?_ | with_reducible refine x_lc ?_ | with_reducible refine x_ilist ?_ | with_reducible refine x_itup ?_ | with_reducible refine x_istr ?_ | with_reducible refine x_istr' ?_ | with_reducible refine x_irng1 ?_ | with_reducible refine x_irng2 ?_
  | (with_reducible refine x_get (by first | assumption | exact Hold.get0 (by assumption) | exact Hold.get1 (by assumption)) (by assumption) (by assumption) (by walk_at "fg") ?_)
  | (with_reducible refine x_ao (by first | assumption | exact Hold.get0 (by assumption) | exact Hold.get1 (by assumption)) (by kernel_rfl) ?_)
  | with_reducible refine x_ienum ?_ | with_reducible refine x_izip ?_ | with_reducible refine x_chain3 ?_
  | (with_reducible refine x_par2 ?_)
  | (with_reducible refine x_par3 ?_) | (with_reducible refine x_par3' ?_)))
abbrev noRow : PRow := ⟨[], false⟩
abbrev noLn : Ln := ⟨[], none⟩
def lastN (rows : List PRow) (here : Nat) : Nat → Nat
  | 0 => 0
  | n + 1 => if here < n ∧ isBl (rows.getD n noRow) = true then lastN rows here n else n + 1
def modLast (f : Ln → Ln) : List Ln → List Ln
  | [] => []
  | [x] => [f x]
  | x :: y :: l => x :: modLast f (y :: l)
theorem modLast_snoc (f : Ln → Ln) (x : Ln) : ∀ l, modLast f (l ++ [x]) = l ++ [f x]
  | [] => rfl
  | [_] => rfl
  | _ :: b :: l => by
    show _ :: modLast f (b :: l ++ [x]) = _
    rw [modLast_snoc f x (b :: l)]; rfl
def b2n (b : Bool) : Nat := if b then 1 else 0
namespace Scr
def all (S : Scr) : List PRow := S.past ++ S.rows
def here (S : Scr) : Nat := S.past.length + S.row
def lnStep (S : Scr) (a : List Ln × Bool) (i : Nat) (p : PRow) : List Ln × Bool :=
  (modLast (fun l => ⟨l.cells ++ p.cells, l.place⟩)
    (if i = S.here then modLast (fun l => ⟨l.cells, some (l.cells.length + S.column + b2n S.full)⟩) (if a.2 = true then a.1 else a.1 ++ [noLn]) else (if a.2 = true then a.1 else a.1 ++ [noLn])), p.goes)
def linesTo (S : Scr) : Nat → List Ln × Bool
  | 0 => ([], false)
  | i + 1 => S.lnStep (S.linesTo i) i (S.all.getD i noRow)
def lastRow (S : Scr) : Nat := lastN S.all S.here S.all.length
def lines (S : Scr) : List Ln := (S.linesTo S.lastRow).1
end Scr
theorem lastN_le (rows : List PRow) (here : Nat) : ∀ n, lastN rows here n ≤ n
  | 0 => Nat.le_refl _
  | n + 1 => by
    unfold lastN
    split
    · exact Nat.le_succ_of_le (lastN_le rows here n)
    · exact Nat.le_refl _
def LinesAt (c : Ctx) (F : Hp) (ys : List V) (ls : List Ln) : Prop := ys.length = ls.length ∧ ∀ i, i < ls.length → LineAt c F (ys.getD i .non) (ls.getD i noLn)
theorem LinesAt.gr {c : Ctx} {F F' : Hp} {ys : List V} {ls : List Ln} (g : Gr F F') (h : LinesAt c F ys ls) : LinesAt c F' ys ls := ⟨h.1, fun i hi => (h.2 i hi).gr g⟩
theorem LinesAt.snoc {c : Ctx} {F : Hp} {ys : List V} {ls : List Ln} {v : V} {l : Ln} (h : LinesAt c F ys ls) (hl : LineAt c F v l) : LinesAt c F (ys ++ [v]) (ls ++ [l]) := ⟨by rw [List.length_append, List.length_append, h.1]; rfl, fun i hi => by
  rw [List.length_append, List.length_singleton] at hi
  by_cases h2 : i < ls.length
  · have z := h.2 i h2
    rw [List.getD_eq_getElem?_getD, List.getElem?_append_left (by rw [h.1]; exact h2), ← List.getD_eq_getElem?_getD, List.getD_eq_getElem?_getD (l := ls ++ [l]), List.getElem?_append_left h2, ← List.getD_eq_getElem?_getD]
    exact z
  · have e : i = ls.length := by omega
    subst e
    rw [List.getD_eq_getElem?_getD, List.getElem?_append_right (by rw [h.1]; exact Nat.le_refl _), h.1, Nat.sub_self, List.getD_eq_getElem?_getD (l := ls ++ [l]), List.getElem?_append_right (Nat.le_refl _), Nat.sub_self]
    exact hl⟩
def sp_lines_of (c : Ctx) : Sp := fun vs H Q _ => ∃ (s : Addr) (C : ScrC) (S : Scr) (F : Hp) (L : List (Addr × HO)), vs = [.ref s] ∧ ScrAt c F C S ∧ (∀ r ∈ C.rows, Pin c F r) ∧ S.Ok ∧ Hold F ((s, scrO c C S) :: L) H ∧
  ∀ (p : Addr) ys F' H', Same F F' → F' p = some (.lst ys) → LinesAt c F' ys S.lines → Hold F' ((s, scrO c C S) :: L) H' → Q (.ref p) H'
/-- how far the lines are made -/
def LnInv (c : Ctx) (D : Addr) (base : List (Addr × HO)) (F H : Hp) (n : Nat) (st : List Ln × Bool) : Prop :=
  (st = ([], false) ∧ Hold F ((D, .lst []) :: base) H) ∨ ∃ ys dn ln a dx q vals, st.1 = dn ++ [ln] ∧ LinesAt c F ys dn ∧ F q = some (.lst vals) ∧ DpAll c.K F vals (ln.cells.map Cell.data) ∧ ln.cells.length ≤ 60 * n ∧ dn.length < n ∧ Hold F ((a, lineO c dx q ln.place) :: (D, .lst (ys ++ [.ref a])) :: base) H
def t_lines_of (c : Ctx) (E : XK) : TS :=
  (tSeq (tAsg (tOp (uAdd c.K) (tFld c.K (tVar 0) "past") (tFld c.K (tVar 0) "rows")) (gName 1))
  (tSeq (tAsg (tOp (uAdd c.K) (tCB (uLen c.K) (tCons (tFld c.K (tVar 0) "past") tNil)) (tFld c.K (tVar 0) "row")) (gName 2))
  (tSeq (tAsg (tCB (uLen c.K) (tCons (tVar 1) tNil)) (gName 3))
  (tSeq (tWhile (tAnd (tTest (tOp uGt (tOp uSub (tVar 3) (tC (.int 1))) (tVar 2))) (tB (tF (sp_is_blank c) E0 (tCons (tOp (uIx c.K) (tVar 1) (tOp uSub (tVar 3) (tC (.int 1)))) tNil)))) (tAsg (tOp uSub (tVar 3) (tC (.int 1))) (gName 3)))
  (tSeq (tAsg (tLst tNil) (gName 4))
  (tSeq (tAsg (tC (.bl false)) (gName 5))
  (tSeq (tFor (iEnum c.K (tCons (tSl (uSl c.K) (tVar 1) tNoPart (tPart (tVar 3))) tNil)) (gTup c.K 2 (gCons (gName 6) (gCons (gName 7) gNil))) (tSeq (tIfS (tNot (tB (tVar 5))) (tDrop (tBM c.K "list" rAppend (tVar 4) (tCons (tN c.cLine (sp_Line_init c) E0 (tCons (tLst tNil) (tCons (tC .non) tNil))) tNil))) tNext)
  (tSeq (tIfS (tTest (tOp (uEq c.K) (tVar 6) (tVar 2))) (sFld c.K (tOp (uIx c.K) (tVar 4) (tUn (rU fun i => .int (-i)) (tC (.int 1)))) (tOp (uAdd c.K) (tOp (uAdd c.K) (tCB (uLen c.K) (tCons (tFld c.K (tOp (uIx c.K) (tVar 4) (tUn (rU fun i => .int (-i)) (tC (.int 1)))) "cells") tNil)) (tFld c.K (tVar 0) "column")) (tCB uInt (tCons (tFld c.K (tVar 0) "is_full") tNil))) "place") tNext)
  (tSeq (sFld c.K (tOp (uIx c.K) (tVar 4) (tUn (rU fun i => .int (-i)) (tC (.int 1)))) (tOp (uAdd c.K) (tFld c.K (tOp (uIx c.K) (tVar 4) (tUn (rU fun i => .int (-i)) (tC (.int 1)))) "cells") (tFld c.K (tVar 7) "cells")) "cells")
  (tAsg (tFld c.K (tVar 7) "goes_on") (gName 5))))))
  (tRet (tVar 4)))))))))
abbrev N_lines_of : List Str := ["screen", "rows", "here", "last", "found", "is_open", "at", "row"]

theorem x_whileC {tc : TT} {tb : TS} {nx bk ct : L2.St → Hp → Prop} {rt : VK} {σ : L2.St} {H : Hp} (W : Nat → L2.St → Hp → Prop) (m0 : Nat) (P : L2.St → Hp → Prop) (h0 : W m0 σ H)
    (hs : (∀ σ H, P σ H → nx σ H) → ∀ m σ H, W m σ H → tc σ H fun b H1 => if b = true then ∃ N : L2.St → Hp → Prop, (∀ σ' H', N σ' H' → ∃ m', m' < m ∧ W m' σ' H') ∧ tb ⟨N, rt, nx, N⟩ σ H1 else nx σ H1) (hP : ∀ σ H, P σ H → nx σ H) : tWhile tc tb ⟨nx, rt, bk, ct⟩ σ H := x_while W m0 h0 (hs hP)
section
variable {c : Ctx}
theorem rd_lines_of (R : FScreen c) (RR : FRow c) (RL : FLine c) : RD N_lines_of (t_lines_of c) (sp_lines_of c) := by
  have cl := R.cl
  have clR := RR.cl
  have clL := RL.cl
  have n1 := R.n_past
  have n2 := R.n_rows
  have n3 := R.n_row
  have n4 := R.n_column
  have n5 := R.n_is_full
  have n6 := RR.n_cells
  have n7 := RR.n_goes_on
  have n8 := RL.n_cells
  have n9 := RL.n_place
  rintro vs H Q E ⟨s, C, S, F, L, rfl, A, hpin, ok, W, kk⟩
  have wf := A.wf
  have hpl := A.plen
  have hrl := A.len
  have hph : C.past.length = S.past.length := by rw [← A.past, List.length_map]
  have hal : S.all.length = C.past.length + C.rows.length := by unfold Scr.all; rw [List.length_append, ← A.past, ← A.rows, List.length_map, List.length_map]
  have hal2 : (C.past ++ C.rows).length = S.all.length := by rw [List.length_append, hal]
  have hh2 := wf.h2
  have hrow := wf.row
  have pins : ∀ i, i < S.all.length → ∃ r, (rowRefs (C.past ++ C.rows)).getD i .non = .ref r.a ∧ Pin c F r ∧ r.row = S.all.getD i noRow := fun i hi => by
    rw [← hal2] at hi
    refine ⟨(C.past ++ C.rows)[i], ?_, ?_, ?_⟩
    · unfold rowRefs
      rw [List.getD_eq_getElem?_getD, List.getElem?_map, List.getElem?_eq_getElem hi]; rfl
    · rcases List.mem_append.mp (List.getElem_mem hi) with h | h
      · exact A.pin _ h
      · exact hpin _ h
    · have e : S.all = (C.past ++ C.rows).map (·.row) := by unfold Scr.all; rw [List.map_append, A.past, A.rows]
      rw [e, List.getD_eq_getElem?_getD, List.getElem?_map, List.getElem?_eq_getElem hi]; rfl
  have aok : ∀ i, (S.all.getD i noRow).Ok := fun i => by
    by_cases hi : i < S.all.length
    · rcases List.mem_append.mp (getD_mem (d := noRow) hi) with h | h
      · exact ok.past _ h
      · exact ok.rows _ h
    · rw [List.getD_eq_getElem?_getD, List.getElem?_eq_none (by omega)]
      exact fun x hx => (nomatch hx)
  have awd : ∀ i, (S.all.getD i noRow).cells.length ≤ 60 := fun i => by
    have w2 := wf.w2
    by_cases hi : i < S.all.length
    · rcases List.mem_append.mp (getD_mem (d := noRow) hi) with h | h
      · exact Nat.le_trans (Nat.le_of_eq (wf.pw _ h)) w2
      · exact Nat.le_trans (Nat.le_of_eq (wf.rw _ h)) w2
    · rw [List.getD_eq_getElem?_getD, List.getElem?_eq_none (by omega)]; exact Nat.zero_le _
  unfold t_lines_of
  walk_at "r"
  refine n_rowsAdd W A.pp A.pr (by omega) fun a1 F1 H1 e1 h1 W1 => ?_
  walk_at "r"
  refine l_lenL (sq_of (W1.old _ _ (e1 _ _ A.pp))) ?_
  unfold rowRefs
  rw [List.length_map]
  walk_at "r"
  rw [hph, show S.past.length + S.row = S.here from rfl]
  refine l_lenL (sq_of (W1.old _ _ h1)) ?_
  unfold rowRefs
  rw [List.length_map, hal2]
  walk_at "r"
  refine x_whileC (fun m σ H' => ∃ F', σ = [some (.ref s), some (.ref a1), some (.int (S.here : Nat)), some (.int (m : Nat)), none, none, none, none] ∧ m ≤ S.all.length ∧ S.lastRow = lastN S.all S.here m ∧ Same F1 F' ∧ Hold F' ((s, scrO c C S) :: L) H') S.all.length
    (fun σ H' => ∃ F', σ = [some (.ref s), some (.ref a1), some (.int (S.here : Nat)), some (.int (S.lastRow : Nat)), none, none, none, none] ∧ Same F1 F' ∧ Hold F' ((s, scrO c C S) :: L) H') ⟨F1, rfl, Nat.le_refl _, rfl, Same.refl F1, W1⟩ ?_ ?_
  · rintro fin m σ H2 ⟨F2, rfl, hm, ht, s2, W2⟩
    walk_at "r"
    refine wD (fun h => ?_) (fun h => ?_)
    · obtain ⟨n, rfl⟩ : ∃ n, m = n + 1 := ⟨m - 1, by omega⟩
      have hn : n < S.all.length := by omega
      walk_at "r"
      rw [show (((n + 1 : Nat) : Int) - 1) = ((n : Nat) : Int) by omega]
      obtain ⟨r, er, hpn, hrw⟩ := pins n hn
      refine g_ixL (sq_of (W2.old _ _ (s2 _ _ h1))) (by rw [rowRefs, List.length_map, hal2]; exact hn) ?_
      rw [er]
      walk_at "r"
      refine ⟨r, F2, _, rfl, hpn.gr (Gr.of (e1.trans s2)), by rw [hrw]; exact aok n, by rw [hrw]; exact awd n, W2, fun F3 H3 e3 W3 => ?_⟩
      walk_at "r"
      cases hb : isBl r.row with
      | true =>
        refine wT rfl ?_
        refine x_wN ?_
        walk_at "r"
        rw [show (((n + 1 : Nat) : Int) - 1) = ((n : Nat) : Int) by omega]
        refine ⟨n, Nat.lt_succ_self n, F3, rfl, by omega, ?_, s2.trans e3, W3⟩
        rw [ht]
        show (if S.here < n ∧ isBl (S.all.getD n noRow) = true then lastN S.all S.here n else n + 1) = _
        rw [if_pos ⟨by omega, by rw [← hrw]; exact hb⟩]
      | false =>
        refine wF rfl ?_
        refine fin _ _ ⟨F3, ?_, s2.trans e3, W3⟩
        have e : S.lastRow = n + 1 := by
          rw [ht]
          show (if S.here < n ∧ isBl (S.all.getD n noRow) = true then lastN S.all S.here n else n + 1) = _
          rw [if_neg fun z => by rw [← hrw, hb] at z; cases z.2]
        rw [e]
    · refine wF rfl ?_
      refine fin _ _ ⟨F2, ?_, s2, W2⟩
      have e : S.lastRow = m := by
        rw [ht]
        cases m with
        | zero => rfl
        | succ n =>
          show (if S.here < n ∧ isBl (S.all.getD n noRow) = true then lastN S.all S.here n else n + 1) = _
          rw [if_neg fun z => h (by have := z.1; omega)]
      rw [e]
  rintro σ H2 ⟨F2, rfl, s2, W2⟩
  have hlr : S.lastRow ≤ S.all.length := lastN_le _ _ _
  walk_at "r"
  refine n_lstL W2 (sz rfl) fun D H3 W3 => ?_
  walk_at "r"
  refine n_rowsTo W3 (s2 _ _ h1) fun a4 F4 H4 e4 h4 W4 => ?_
  walk_at "r"
  refine x_ienum' (W4.gr.sqL (sq_of h4)) ?_
  have s14 : Same F1 F4 := s2.trans e4
  have s04 : Same F F4 := e1.trans s14
  have hlen : (rowRefs ((C.past ++ C.rows).take S.lastRow)).length = S.lastRow := by rw [rowRefs, List.length_map, List.length_take, hal2]; omega
  refine x_forT (F := F4) (ItTup.enum (sq_of h4)) (fun i σ H' => ∃ z6 z7 F', σ = [some (.ref s), some (.ref a1), some (.int (S.here : Nat)), some (.int (S.lastRow : Nat)), some (.ref D), some (.bl (S.linesTo i).2), z6, z7] ∧ Same F4 F' ∧ LnInv c D ((s, scrO c C S) :: L) F' H' i (S.linesTo i))
    ?_ ⟨_, _, F4, rfl, Same.refl F4, .inl ⟨rfl, W4⟩⟩ ?_ ?_
  · rintro i σ H' _ ⟨_, _, F', _, s', h⟩
    rcases h with ⟨_, W'⟩ | ⟨_, _, _, _, _, _, _, _, _, _, _, _, _, W'⟩
    · exact (Gr.of s').trans W'.gr
    · exact (Gr.of s').trans W'.gr
  · rintro i σ H5 T hi ⟨z6, z7, F5, rfl, s5, inv⟩ nT
    rw [hlen] at hi
    have hia : i < S.all.length := by omega
    obtain ⟨r, er, hpn, hrw⟩ := pins i hia
    have erow : (rowRefs ((C.past ++ C.rows).take S.lastRow)).getD i .non = .ref r.a := by
      rw [← er, rowRefs, rowRefs, List.getD_eq_getElem?_getD, List.getD_eq_getElem?_getD, List.map_take, List.getElem?_take_of_lt hi]
    rw [erow]
    have hpn5 := hpn.gr (Gr.of (s04.trans s5))
    have hw60 := awd i
    have est : S.linesTo (i + 1) = S.lnStep (S.linesTo i) i r.row := by rw [hrw]; rfl
    rw [← hrw] at hw60
    have hrv := dpAll_len hpn5.2.2
    rw [List.length_map] at hrv
    -- the head of a turn: there is a last line
    have key : ∀ (bk : L2.St → Hp → Prop) F6 H6 ys dn ln a dx q vals, Same F5 F6 → (if (S.linesTo i).2 = true then (S.linesTo i).1 else (S.linesTo i).1 ++ [noLn]) = dn ++ [ln] → LinesAt c F6 ys dn → F6 q = some (.lst vals) → DpAll c.K F6 vals (ln.cells.map Cell.data) → ln.cells.length ≤ 60 * i → dn.length ≤ i →
        Hold F6 ((a, lineO c dx q ln.place) :: (D, .lst (ys ++ [.ref a])) :: (s, scrO c C S) :: L) H6 →
        tSeq (tIfS (tTest (tOp (uEq c.K) (tVar 6) (tVar 2))) (sFld c.K (tOp (uIx c.K) (tVar 4) (tUn (rU fun i => .int (-i)) (tC (.int 1)))) (tOp (uAdd c.K) (tOp (uAdd c.K) (tCB (uLen c.K) (tCons (tFld c.K (tOp (uIx c.K) (tVar 4) (tUn (rU fun i => .int (-i)) (tC (.int 1)))) "cells") tNil)) (tFld c.K (tVar 0) "column")) (tCB uInt (tCons (tFld c.K (tVar 0) "is_full") tNil))) "place") tNext)
          (tSeq (sFld c.K (tOp (uIx c.K) (tVar 4) (tUn (rU fun i => .int (-i)) (tC (.int 1)))) (tOp (uAdd c.K) (tFld c.K (tOp (uIx c.K) (tVar 4) (tUn (rU fun i => .int (-i)) (tC (.int 1)))) "cells") (tFld c.K (tVar 7) "cells")) "cells")
            (tAsg (tFld c.K (tVar 7) "goes_on") (gName 5)))
          ⟨fun σ H' => ∃ z6 z7 F', σ = [some (.ref s), some (.ref a1), some (.int (S.here : Nat)), some (.int (S.lastRow : Nat)), some (.ref D), some (.bl (S.linesTo (i + 1)).2), z6, z7] ∧ Same F4 F' ∧ LnInv c D ((s, scrO c C S) :: L) F' H' (i + 1) (S.linesTo (i + 1)), Q, bk, fun σ H' => ∃ z6 z7 F', σ = [some (.ref s), some (.ref a1), some (.int (S.here : Nat)), some (.int (S.lastRow : Nat)), some (.ref D), some (.bl (S.linesTo (i + 1)).2), z6, z7] ∧ Same F4 F' ∧ LnInv c D ((s, scrO c C S) :: L) F' H' (i + 1) (S.linesTo (i + 1))⟩
          [some (.ref s), some (.ref a1), some (.int (S.here : Nat)), some (.int (S.lastRow : Nat)), some (.ref D), some (.bl (S.linesTo i).2), some (.int (i : Nat)), some (.ref r.a)] H6 := by
      intro bk F6 H6 ys dn ln a dx q vals e6 edn hL hq hv hcl hdl W6
      have fin : ∀ H7 pl, (if i = S.here then modLast (fun l => ⟨l.cells, some (l.cells.length + S.column + b2n S.full)⟩) (dn ++ [ln]) else dn ++ [ln]) = dn ++ [⟨ln.cells, pl⟩] → Hold F6 ((a, lineO c dx q pl) :: (D, .lst (ys ++ [.ref a])) :: (s, scrO c C S) :: L) H7 →
          tSeq (sFld c.K (tOp (uIx c.K) (tVar 4) (tUn (rU fun i => .int (-i)) (tC (.int 1)))) (tOp (uAdd c.K) (tFld c.K (tOp (uIx c.K) (tVar 4) (tUn (rU fun i => .int (-i)) (tC (.int 1)))) "cells") (tFld c.K (tVar 7) "cells")) "cells")
            (tAsg (tFld c.K (tVar 7) "goes_on") (gName 5))
          ⟨fun σ H' => ∃ z6 z7 F', σ = [some (.ref s), some (.ref a1), some (.int (S.here : Nat)), some (.int (S.lastRow : Nat)), some (.ref D), some (.bl (S.linesTo (i + 1)).2), z6, z7] ∧ Same F4 F' ∧ LnInv c D ((s, scrO c C S) :: L) F' H' (i + 1) (S.linesTo (i + 1)), Q, bk, fun σ H' => ∃ z6 z7 F', σ = [some (.ref s), some (.ref a1), some (.int (S.here : Nat)), some (.int (S.lastRow : Nat)), some (.ref D), some (.bl (S.linesTo (i + 1)).2), z6, z7] ∧ Same F4 F' ∧ LnInv c D ((s, scrO c C S) :: L) F' H' (i + 1) (S.linesTo (i + 1))⟩
          [some (.ref s), some (.ref a1), some (.int (S.here : Nat)), some (.int (S.lastRow : Nat)), some (.ref D), some (.bl (S.linesTo i).2), some (.int (i : Nat)), some (.ref r.a)] H7 := fun H7 pl epl W7 => by
        have hvl := dpAll_len hv
        rw [List.length_map] at hvl
        have hpn6 := hpn5.gr (Gr.of e6)
        walk_at "r"
        refine l_ixL (sq_of W7.get1) atI_last ?_
        refine x_get W7.get0 clL n8 fsLine_g0 ?_
        walk_at "r"
        refine x_get (W7.old _ _ hpn6.1) clR n6 fsRow_g0 ?_
        refine n_addF W7 (W7.old _ _ hq) (W7.old _ _ hpn6.2.1) (szl (by omega)) fun q2 F8 H8 e8 h8 W8 => ?_
        walk_at "r"
        refine l_ixL (sq_of W8.get1) atI_last ?_
        refine x_put0 (fs' := fsLine (.ref q2) (placeV pl)) W8 clL n8 fsLine_len fsLine_p0 fun H9 W9 => ?_
        have hpn8 := hpn6.gr (Gr.of e8)
        walk_at "r"
        refine x_get (W9.old _ _ hpn8.1) clR n7 fsRow_g1 ?_
        walk_at "r"
        have e2 : (S.linesTo (i + 1)).2 = r.row.goes := by rw [est]; rfl
        refine ⟨_, _, F8, by rw [e2]; rfl, s5.trans (e6.trans e8), .inr ⟨ys, dn, ⟨ln.cells ++ r.row.cells, pl⟩, a, dx, q2, vals ++ r.vals, ?_, hL.gr (Gr.of e8), h8, ?_, ?_, by omega, W9⟩⟩
        · rw [est]
          unfold Scr.lnStep
          rw [edn, epl]
          exact modLast_snoc _ _ _
        · rw [List.map_append]
          exact dpAll_app ((Gr.of e8).dpAll hv) hpn8.2.2
        · show (ln.cells ++ r.row.cells).length ≤ 60 * (i + 1)
          rw [List.length_append]; omega
      have hvl := dpAll_len hv
      rw [List.length_map] at hvl
      walk_at "r"
      refine wD (fun h => ?_) (fun h => ?_)
      · have ei : i = S.here := by omega
        walk_at "r"
        refine l_ixL (sq_of W6.get1) atI_last ?_
        refine x_get W6.get0 clL n8 fsLine_g0 ?_
        walk_at "r"
        refine l_lenL (sq_of (W6.old _ _ hq)) ?_
        rw [hvl]
        have gs : H6 s = some (scrO c C S) := W6.own (s, scrO c C S) (by simp)
        walk_at "r"
        have eb : (((ln.cells.length + S.column : Nat) : Int) + (if S.full = true then 1 else 0)) = ((ln.cells.length + S.column + b2n S.full : Nat) : Int) := by unfold b2n; split <;> omega
        rw [eb]
        refine l_ixL (sq_of W6.get1) atI_last ?_
        refine x_put0 (fs' := fsLine (.ref q) (placeV (some (ln.cells.length + S.column + b2n S.full)))) W6 clL n9 fsLine_len fsLine_p1 fun H7 W7 => ?_
        refine fin H7 _ ?_ W7
        rw [if_pos ei]
        exact modLast_snoc _ _ _
      · refine fin H6 ln.place ?_ W6
        rw [if_neg fun z => h (by omega)]
    have hnT : ∀ {L'} , Hold F5 L' H5 → ∃ F6, Same F5 F6 ∧ F6 T = some (.tup [.int (i : Nat), .ref r.a]) ∧ Hold F6 L' (upd H5 T (.tup [.int (i : Nat), .ref r.a])) := fun W5 => ⟨_, same_new (W5.fresh nT), upd_same, W5.alloc (o := .tup [.int (i : Nat), .ref r.a]) nT⟩
    generalize upd H5 T (.tup [.int (i : Nat), .ref r.a]) = H6 at hnT ⊢
    -- a new line
    rcases inv with ⟨e, W5⟩ | ⟨ys, dn, ln, a, dx, q, vals, e, hL, hq, hv, hcl, hdl, W5⟩
    · obtain ⟨F6, e6, hT, W6⟩ := hnT W5
      refine x_gtup (st_of (W6.old _ _ hT)) rfl ?_
      walk_at "r"
      have eo : (S.linesTo i).2 = false := by rw [e]
      rw [eo]
      refine wT rfl ?_
      walk_at "r"
      refine x_tylst (sq_of W6.get0) ?_
      walk_at "r"
      refine n_lstF W6 (sz rfl) fun q F7 H7 e7 h7 W7 => ?_
      walk_at "r"
      refine x_an W7 fun a dx H8 W8 => ⟨a, dx, q, F7, _, rfl, W8, fun H9 W9 => ⟨rfl, ?_⟩⟩
      refine x_nil ?_
      refine x_push (W9.perm (List.Perm.swap _ _ _)) (by simp) fun H10 W10 => ?_
      rw [← eo]
      refine key _ F7 H10 [] [] noLn a dx q [] (e6.trans e7) ?_ ⟨rfl, fun i hi => absurd hi (Nat.not_lt_zero _)⟩ h7 .nil (Nat.zero_le _) (Nat.zero_le _) (W10.perm (List.Perm.swap _ _ _))
      rw [e]; rfl
    · obtain ⟨F6, e6, hT, W6⟩ := hnT W5
      refine x_gtup (st_of (W6.old _ _ hT)) rfl ?_
      walk_at "r"
      cases hop : (S.linesTo i).2 with
      | true =>
        refine wF rfl ?_
        rw [← hop]
        refine x_next ?_
        exact key _ F6 _ ys dn ln a dx q vals e6 (by rw [if_pos hop]; exact e) (hL.gr (Gr.of e6)) (e6 _ _ hq) ((Gr.of e6).dpAll hv) hcl (by omega) W6
      | false =>
        refine wT rfl ?_
        have e7 := W6.freezeS
        have W7 := W6.freeze
        have h7 : (upd F6 a (lineO c dx q ln.place)) a = some (lineO c dx q ln.place) := upd_same
        generalize upd F6 a (lineO c dx q ln.place) = F7 at e7 W7 h7
        have hL7 : LinesAt c F7 (ys ++ [.ref a]) (dn ++ [ln]) := (hL.gr (Gr.of (e6.trans e7))).snoc ⟨a, dx, q, vals, rfl, h7, (e6.trans e7) _ _ hq, (Gr.of (e6.trans e7)).dpAll hv⟩
        have hyl := hL7.1
        rw [List.length_append (as := dn), List.length_singleton] at hyl
        walk_at "r"
        refine x_tylst (sq_of W7.get0) ?_
        walk_at "r"
        refine n_lstF W7 (sz rfl) fun q2 F8 H8 e8 h8 W8 => ?_
        walk_at "r"
        refine x_an W8 fun a2 dx2 H9 W9 => ⟨a2, dx2, q2, F8, _, rfl, W9, fun H10 W10 => ⟨rfl, ?_⟩⟩
        refine x_nil ?_
        refine x_push (W10.perm (List.Perm.swap _ _ _)) (by omega) fun H11 W11 => ?_
        rw [← hop]
        refine key _ F8 H11 (ys ++ [.ref a]) (dn ++ [ln]) noLn a2 dx2 q2 [] (e6.trans (e7.trans e8)) ?_ (hL7.gr (Gr.of e8)) h8 .nil (Nat.zero_le _) (by rw [List.length_append, List.length_singleton]; omega) (W11.perm (List.Perm.swap _ _ _))
        rw [if_neg (by rw [hop]; decide), e]
  · rintro σ H5 ⟨z6, z7, F5, rfl, s5, inv⟩
    rw [hlen] at inv ⊢
    walk_at "r"
    rcases inv with ⟨e, W5⟩ | ⟨ys, dn, ln, a, dx, q, vals, e, hL, hq, hv, _, _, W5⟩
    · have W6 := W5.freeze
      refine kk D [] _ H5 (s04.trans (s5.trans W5.freezeS)) upd_same ?_ W6
      show LinesAt c _ [] (S.linesTo S.lastRow).1
      rw [e]
      exact ⟨rfl, fun i hi => absurd hi (Nat.not_lt_zero _)⟩
    · have e6 := W5.freezeS
      have W6 := W5.freeze
      have h6 : (upd F5 a (lineO c dx q ln.place)) a = some (lineO c dx q ln.place) := upd_same
      generalize upd F5 a (lineO c dx q ln.place) = F6 at e6 W6 h6
      have e7 := W6.freezeS
      have W7 := W6.freeze
      refine kk D _ _ H5 (s04.trans (s5.trans (e6.trans e7))) upd_same ?_ W7
      show LinesAt c _ _ (S.linesTo S.lastRow).1
      rw [e]
      exact (hL.gr (Gr.of (e6.trans e7))).snoc ⟨a, dx, q, vals, rfl, e7 _ _ h6, e7 _ _ (e6 _ _ hq), (Gr.of (e6.trans e7)).dpAll hv⟩
end
end Ss
/-! ## other sizes 3: a line is laid -/
namespace Ss
open PySem PySem.Spec PyProof.Rows L2
open Ss in
local macro_rules | `(tactic| walk_at "fg") => `(tactic| first | with_reducible exact fsLine_g0 | with_reducible exact fsLine_g1 | with_reducible exact fsScreen_g0 | with_reducible exact fsScreen_g1 | with_reducible exact fsScreen_g2 | with_reducible exact fsScreen_g3 | with_reducible exact fsScreen_g4 | with_reducible exact fsScreen_g5 | with_reducible exact fsScreen_g6 | with_reducible exact fsScreen_g7 | with_reducible exact fsScreen_g8 | with_reducible exact fsScreen_g9 | with_reducible exact fsScreen_g10 | with_reducible exact fsScreen_g11 | with_reducible exact fsScreen_g12 | with_reducible exact fsScreen_g13 | with_reducible exact fsRow_g0 | with_reducible exact fsRow_g1)
open Ss in
local macro_rules | `(tactic| walk_at "r") => `(tactic| repeat (first
  | with_reducible refine x_seq ?_ | with_reducible refine x_asg ?_ | with_reducible refine x_var rfl ?_ | with_reducible refine x_c ?_ | with_reducible refine x_op ?_ | with_reducible refine x_name ?_ | with_reducible refine x_gcons ?_ | with_reducible refine x_gnil ?_
  | with_reducible refine x_cons ?_ | with_reducible refine x_nil ?_ | with_reducible refine x_cb ?_ | with_reducible refine x_ifs ?_ | with_reducible refine x_test ?_ | with_reducible refine x_bl ?_
  | with_reducible refine g_addNN ?_ | with_reducible refine g_addNL ?_ | with_reducible refine g_addLN ?_ | with_reducible refine l_addI ?_ | with_reducible refine l_subI ?_ | with_reducible refine g_ltNL ?_ | with_reducible refine l_ltI ?_ | with_reducible refine l_leI ?_ | with_reducible refine l_gtI ?_ | with_reducible refine l_geI ?_ | with_reducible refine l_eqX ?_ | with_reducible refine l_neX ?_ | with_reducible refine g_eqNL ?_ | with_reducible refine l_eqII ?_ | with_reducible refine l_neII ?_ | with_reducible refine l_eq rfl ?_ | with_reducible refine l_ne rfl ?_
  | with_reducible refine x_fld ?_ | with_reducible refine x_ret ?_ | with_reducible refine x_drop ?_ | with_reducible refine x_next ?_ | with_reducible refine x_tup ?_ | with_reducible refine x_lst ?_ | with_reducible refine x_f ?_ | with_reducible refine x_o ?_ | with_reducible refine x_n ?_
  | with_reducible refine x_bm ?_ | with_reducible refine x_bm0 ?_ | with_reducible refine x_m1 ?_ | with_reducible refine x_m0 ?_ | with_reducible refine x_isstr ?_ | with_reducible refine x_tystr ?_ | with_reducible refine x_sl ?_ | with_reducible refine x_part ?_ | with_reducible refine x_part' ?_ | with_reducible refine x_nopart ?_
  | with_reducible refine x_sfld ?_ | with_reducible refine x_if ?_ | with_reducible refine x_isty ?_ | with_reducible refine x_chain ?_ | with_reducible refine x_andV ?_ | with_reducible refine x_orV ?_ | with_reducible refine x_notV ?_ | with_reducible refine x_B ?_ | with_reducible refine x_and ?_ | with_reducible refine x_or ?_ | with_reducible refine x_not ?_ | with_reducible refine x_tru ?_ | with_reducible refine x_yes ?_
  | with_reducible refine x_un ?_ | with_reducible refine x_neg ?_ | with_reducible refine x_par ?_ | with_reducible refine x_par' ?_ | with_reducible refine x_retN ?_ | with_reducible refine x_brk ?_ | with_reducible refine x_cont ?_ | with_reducible refine x_rz ?_
  | with_reducible refine l_leS ?_ | with_reducible refine l_ltS ?_ | with_reducible refine l_inX ?_ | with_reducible refine l_niX ?_ | with_reducible refine l_inS ?_ | with_reducible refine l_niS ?_ | with_reducible refine l_count ?_ | with_reducible refine l_ord ?_ | with_reducible refine l_max ?_ | with_reducible refine l_min ?_ | with_reducible refine l_intI ?_ | with_reducible refine l_intB ?_ | with_reducible refine l_is ?_ | with_reducible refine l_isn ?_
  | with_reducible refine g_modNL (by decide) ?_ | with_reducible refine g_divNL (by decide) (by decide) ?_ | with_reducible refine l_modI (by decide) ?_ | with_reducible refine x_for ?_ | with_reducible refine x_lc ?_ | with_reducible refine x_ilist ?_ | with_reducible refine x_itup ?_ | with_reducible refine x_istr ?_ | with_reducible refine x_istr' ?_ | with_reducible refine x_irng1 ?_ | with_reducible refine x_irng2 ?_
  | (with_reducible refine x_get (by first | assumption | exact Hold.get0 (by assumption) | exact Hold.get1 (by assumption)) (by assumption) (by assumption) (by walk_at "fg") ?_)
  | (with_reducible refine x_ao (by first | assumption | exact Hold.get0 (by assumption) | exact Hold.get1 (by assumption)) (by kernel_rfl) ?_)
  | with_reducible refine x_ienum ?_ | with_reducible refine x_izip ?_ | with_reducible refine x_chain3 ?_
  | (with_reducible refine x_par2 ?_)
  | (with_reducible refine x_par3 ?_) | (with_reducible refine x_par3' ?_)))
def cutRow (l : List Cell) (w j : Nat) : PRow := ⟨(l.drop (j * w)).take w ++ List.replicate (w - ((l.drop (j * w)).take w).length) blankCell, decide (j * w + w < l.length)⟩
def cutRows (l : List Cell) (w n : Nat) : List PRow := (List.range n).map (cutRow l w)
def nRows (k w : Nat) : Nat := (max 1 k - 1) / w + 1
def layCells (ln : Ln) : List Cell := trimL ln.cells (min (ln.place.getD 0) ln.cells.length)
def layRows (ln : Ln) (w : Nat) : List PRow := cutRows (layCells ln) w (nRows (layCells ln).length w)
abbrev Spot : Type := Nat × Nat × Bool
def laySpot (ln : Ln) (w : Nat) : Option Spot := ln.place.map fun p => if p = (layRows ln w).length * w then ((layRows ln w).length - 1, w - 1, true) else (p / w, p % w, false)
def SpotAt (c : Ctx) (F : Hp) (v : V) : Option Spot → Prop
  | none => v = .non
  | some (a, b, f) => ∃ q, v = .ref q ∧ SqT c.K F q [.int (a : Nat), .int (b : Nat), .bl f]
theorem SpotAt.gr {c : Ctx} {F F' : Hp} {v : V} {o : Option Spot} (g : Gr F F') (h : SpotAt c F v o) : SpotAt c F' v o := by
  cases o with
  | none => exact h
  | some x => obtain ⟨q, e, hq⟩ := h; exact ⟨q, e, g.sqT hq⟩
theorem layCells_len (ln : Ln) : (layCells ln).length ≤ ln.cells.length := by unfold layCells trimL; rw [List.length_take]; omega
theorem nRows_le {k w : Nat} (hw : 1 ≤ w) : nRows k w ≤ k + 1 := by
  unfold nRows
  have h1 : (max 1 k - 1) / w ≤ max 1 k - 1 := Nat.div_le_self _ _
  omega
theorem layRows_len (ln : Ln) {w : Nat} (hw : 1 ≤ w) : (layRows ln w).length ≤ ln.cells.length + 1 := by
  unfold layRows cutRows
  rw [List.length_map, List.length_range]
  have h1 := nRows_le (k := (layCells ln).length) hw
  have h2 := layCells_len ln
  omega
theorem cutRow_len {l : List Cell} {w j : Nat} : (cutRow l w j).cells.length = w := by
  show ((l.drop (j * w)).take w ++ List.replicate (w - ((l.drop (j * w)).take w).length) blankCell).length = w
  rw [List.length_append, List.length_replicate, List.length_take]; omega
theorem trimL_ok {l : List Cell} {k : Nat} (h : ∀ x ∈ l, x.Ok) : ∀ x ∈ trimL l k, x.Ok := fun x hx => h x (List.mem_of_mem_take hx)
theorem cutRow_ok {l : List Cell} {w j : Nat} (h : ∀ x ∈ l, x.Ok) : (cutRow l w j).Ok := fun x hx => by
  rcases List.mem_append.mp hx with hx | hx
  · exact h x (List.mem_of_mem_drop (List.mem_of_mem_take hx))
  · rw [(List.mem_replicate.mp hx).2]; exact blank_ok
def sp_laid (c : Ctx) : Sp := fun vs H Q _ => ∃ (v : V) (ln : Ln) (w : Nat) (F : Hp) (L : List (Addr × HO)), vs = [v, .int (w : Nat)] ∧ LineAt c F v ln ∧ (∀ x ∈ ln.cells, x.Ok) ∧ ln.cells.length ≤ 20000 ∧ 2 ≤ w ∧ w ≤ 60 ∧ Hold F L H ∧
  ∀ (t D : Addr) (sv : V) (rs : List RowC) F' H', Same F F' → F' t = some (.tup [.ref D, sv]) → F' D = some (.lst (rowRefs rs)) → rs.map (·.row) = layRows ln w → (∀ r ∈ rs, cellsAt c F' r) → SpotAt c F' sv (laySpot ln w) → Hold F' (ownR c rs ++ L) H' → Q (.ref t) H'
def t_laid (c : Ctx) (E : XK) : TS :=
  (tSeq (tAsg (tIf (tTest (tOp uIs (tFld c.K (tVar 0) "place") (tC .non))) (tC (.int 0)) (tFld c.K (tVar 0) "place")) (gName 2))
  (tSeq (tAsg (tF (sp_trimmed c) E0 (tCons (tFld c.K (tVar 0) "cells") (tCons (tCB uMin (tCons (tVar 2) (tCons (tCB (uLen c.K) (tCons (tFld c.K (tVar 0) "cells") tNil)) tNil))) tNil))) (gName 3))
  (tSeq (tAsg (tLst tNil) (gName 4))
  (tSeq (tFor (iRng3 (tCons (tC (.int 0)) (tCons (tCB uMax (tCons (tC (.int 1)) (tCons (tCB (uLen c.K) (tCons (tVar 3) tNil)) tNil))) (tCons (tVar 1) tNil)))) (gName 5) (tSeq (tAsg (tSl (uSl c.K) (tVar 3) (tPart (tVar 5)) (tPart (tOp (uAdd c.K) (tVar 5) (tVar 1)))) (gName 6))
  (tDrop (tBM c.K "list" rAppend (tVar 4) (tCons (tN c.cRow (sp_Row_init c) E0 (tCons (tOp (uAdd c.K) (tVar 6) (tOp (uMul c.K) (tLst (tCons (tC (v_BLANK c)) tNil)) (tOp uSub (tVar 1) (tCB (uLen c.K) (tCons (tVar 6) tNil))))) (tCons (tOp uLt (tOp (uAdd c.K) (tVar 5) (tVar 1)) (tCB (uLen c.K) (tCons (tVar 3) tNil))) tNil))) tNil)))))
  (tSeq (tIfS (tTest (tOp uIs (tFld c.K (tVar 0) "place") (tC .non))) (tRet (tTup (tCons (tVar 4) (tCons (tC .non) tNil)))) tNext)
  (tSeq (tIfS (tTest (tOp (uEq c.K) (tFld c.K (tVar 0) "place") (tOp (uMul c.K) (tCB (uLen c.K) (tCons (tVar 4) tNil)) (tVar 1)))) (tRet (tTup (tCons (tVar 4) (tCons (tTup (tCons (tOp uSub (tCB (uLen c.K) (tCons (tVar 4) tNil)) (tC (.int 1))) (tCons (tOp uSub (tVar 1) (tC (.int 1))) (tCons (tC (.bl true)) tNil)))) tNil)))) tNext)
  (tRet (tTup (tCons (tVar 4) (tCons (tTup (tCons (tOp uDiv (tFld c.K (tVar 0) "place") (tVar 1)) (tCons (tOp uMod (tFld c.K (tVar 0) "place") (tVar 1)) (tCons (tC (.bl false)) tNil)))) tNil))))))))))
abbrev N_laid : List Str := ["line", "wide", "least", "cells", "rows", "at", "part"]

theorem rgC_up {m w : Nat} (hm : 1 ≤ m) (hm2 : m ≤ 100000) (hw : 1 ≤ w) (hw2 : w ≤ 60) : RgC 0 ((m : Nat) : Int) ((w : Nat) : Int) ((m - 1) / w + 1) := by
  have hR : Builtin.Range.rangeSize 0 ((m : Nat) : Int) ((w : Nat) : Int) = (((m - 1) / w + 1 : Nat) : Int) := by
    unfold Builtin.Range.rangeSize
    rw [if_pos (by omega), if_pos (by omega)]
    have e : ((m : Int) - 0 - 1) = ((m - 1 : Nat) : Int) := by omega
    rw [e, ← Int.natCast_ediv]; rfl
  refine ⟨by omega, by omega, ?_, hR⟩
  have hd : (m - 1) / w ≤ m - 1 := Nat.div_le_self _ _
  have hd2 : (m - 1) / w * w ≤ m - 1 := Nat.div_mul_le_self _ _
  unfold Builtin.Range.small
  rw [hR]
  generalize (m - 1) / w = q at hd hd2
  simp only [Builtin.Range.rangeFitsLong, Bool.and_eq_true, Bool.or_eq_true, decide_eq_true_eq, beq_iff_eq]
  refine ⟨by omega, .inr ?_⟩
  rw [if_pos (by omega), Bool.and_eq_true, decide_eq_true_eq, decide_eq_true_eq]
  omega
theorem x_irng3' {P : It → Prop} {m w : Nat} (hm : 1 ≤ m) (hm2 : m ≤ 100000) (hw : 1 ≤ w) (hw2 : w ≤ 60) (h : P (Itc 0 ((w : Nat) : Int) ((m - 1) / w + 1))) : ∃ (i j c : Int) (n : Nat), [V.int 0, V.int ((m : Nat) : Int), V.int ((w : Nat) : Int)] = [.int i, .int j, .int c] ∧ RgC i j c n ∧ P (Itc i c n) := ⟨_, _, _, _, rfl, rgC_up hm hm2 hw hw2, h⟩
theorem ItOk.rngC {F : Hp} {lo st : Int} {n : Nat} : ItOk (Itc lo st n) F n (fun i => .int (lo + (i : Nat) * st)) := ⟨fun _ _ _ h => h, fun _ _ => Nat.le_refl _, fun _ _ _ _ _ _ y => y⟩
theorem x_irng3 {ta : TA} {σ : L2.St} {H : Hp} {R : It → Hp → Prop} (h : ta σ H fun vs H1 => ∃ (i j c : Int) (n : Nat), vs = [.int i, .int j, .int c] ∧ RgC i j c n ∧ R (Itc i c n) H1) : iRng3 ta σ H R := h
section
variable {c : Ctx}
theorem rd_laid (U : Tups c) (RL : FLine c) : RD N_laid (t_laid c) (sp_laid c) := by
  have clL := RL.cl
  have n8 := RL.n_cells
  have n9 := RL.n_place
  rintro vs H Q E ⟨v, ln, w, F, L, rfl, hln, hok, hlen, hw1, hw2, W, kk⟩
  obtain ⟨a, dx, q, vals, rfl, ha, hq, hd⟩ := hln
  have hvl := dpAll_len hd
  rw [List.length_map] at hvl
  unfold t_laid
  walk_at "r"
  refine x_get (W.old _ _ ha) clL n9 fsLine_g1 ?_
  -- how many cells at least
  have first : ∀ lst : Nat, lst = ln.place.getD 0 → tSeq (tAsg (tF (sp_trimmed c) E0 (tCons (tFld c.K (tVar 0) "cells") (tCons (tCB uMin (tCons (tVar 2) (tCons (tCB (uLen c.K) (tCons (tFld c.K (tVar 0) "cells") tNil)) tNil))) tNil))) (gName 3))
      (tSeq (tAsg (tLst tNil) (gName 4))
  (tSeq (tFor (iRng3 (tCons (tC (.int 0)) (tCons (tCB uMax (tCons (tC (.int 1)) (tCons (tCB (uLen c.K) (tCons (tVar 3) tNil)) tNil))) (tCons (tVar 1) tNil)))) (gName 5) (tSeq (tAsg (tSl (uSl c.K) (tVar 3) (tPart (tVar 5)) (tPart (tOp (uAdd c.K) (tVar 5) (tVar 1)))) (gName 6))
  (tDrop (tBM c.K "list" rAppend (tVar 4) (tCons (tN c.cRow (sp_Row_init c) E0 (tCons (tOp (uAdd c.K) (tVar 6) (tOp (uMul c.K) (tLst (tCons (tC (v_BLANK c)) tNil)) (tOp uSub (tVar 1) (tCB (uLen c.K) (tCons (tVar 6) tNil))))) (tCons (tOp uLt (tOp (uAdd c.K) (tVar 5) (tVar 1)) (tCB (uLen c.K) (tCons (tVar 3) tNil))) tNil))) tNil)))))
  (tSeq (tIfS (tTest (tOp uIs (tFld c.K (tVar 0) "place") (tC .non))) (tRet (tTup (tCons (tVar 4) (tCons (tC .non) tNil)))) tNext)
  (tSeq (tIfS (tTest (tOp (uEq c.K) (tFld c.K (tVar 0) "place") (tOp (uMul c.K) (tCB (uLen c.K) (tCons (tVar 4) tNil)) (tVar 1)))) (tRet (tTup (tCons (tVar 4) (tCons (tTup (tCons (tOp uSub (tCB (uLen c.K) (tCons (tVar 4) tNil)) (tC (.int 1))) (tCons (tOp uSub (tVar 1) (tC (.int 1))) (tCons (tC (.bl true)) tNil)))) tNil)))) tNext)
  (tRet (tTup (tCons (tVar 4) (tCons (tTup (tCons (tOp uDiv (tFld c.K (tVar 0) "place") (tVar 1)) (tCons (tOp uMod (tFld c.K (tVar 0) "place") (tVar 1)) (tCons (tC (.bl false)) tNil)))) tNil)))))))) ⟨fun x H' => Q V.non H', Q, fun _ _ => False, fun _ _ => False⟩ [some (.ref a), some (.int (w : Nat)), some (.int (lst : Nat)), none, none, none, none] H := by
    intro lst hlst
    walk_at "r"
    refine x_get (W.old _ _ ha) clL n8 fsLine_g0 ?_
    walk_at "r"
    refine x_get (W.old _ _ ha) clL n8 fsLine_g0 ?_
    walk_at "r"
    refine l_lenL (sq_of (W.old _ _ hq)) ?_
    rw [hvl]
    walk_at "r"
    rw [show (min (lst : Int) (ln.cells.length : Int)) = ((min lst ln.cells.length : Nat) : Int) by omega]
    refine ⟨q, vals, ln.cells, min lst ln.cells.length, F, L, rfl, hq, hd, hok, W, fun cp cv F1 H1 e1 h1 hd1 W1 => ?_⟩
    have ecs : trimL ln.cells (min lst ln.cells.length) = layCells ln := by rw [hlst]; rfl
    rw [ecs] at hd1
    have hcl := layCells_len ln
    have hcv := dpAll_len hd1
    rw [List.length_map] at hcv
    have ha1 := e1 _ _ ha
    have hrows : layRows ln w = cutRows (layCells ln) w (nRows (layCells ln).length w) := rfl
    have hrl := layRows_len ln (w := w) (by omega)
    generalize layCells ln = cs at hd1 hcl hcv hrows
    walk_at "r"
    refine n_lstL W1 (sz rfl) fun D H2 W2 => ?_
    walk_at "r"
    refine x_irng3 ?_
    walk_at "r"
    refine l_lenL (sq_of (W2.old _ _ h1)) ?_
    rw [hcv]
    walk_at "r"
    rw [show (max (1 : Int) (cs.length : Int)) = ((max 1 cs.length : Nat) : Int) by omega]
    refine ⟨_, _, _, _, rfl, rgC_up (m := max 1 cs.length) (by omega) (by omega) (by omega) hw2, ?_⟩
    refine x_forOk (F := F1) ItOk.rngC (fun i σ H' => ∃ z5 z6 rs F', σ = [some (.ref a), some (.int (w : Nat)), some (.int (lst : Nat)), some (.ref cp), some (.ref D), z5, z6] ∧ Same F1 F' ∧ rs.map (·.row) = cutRows cs w i ∧ (∀ r ∈ rs, cellsAt c F' r) ∧ Hold F' ((D, .lst (rowRefs rs)) :: (ownR c rs ++ L)) H')
      (fun i σ H' _ ⟨_, _, _, F', _, s, _, _, W'⟩ => (Gr.of s).trans W'.gr) ⟨_, _, [], F1, rfl, Same.refl F1, rfl, fun _ h => (nomatch h), W2⟩ ?_ ?_
    · rintro i σ H3 hi ⟨z5, z6, rs, F3, rfl, s3, hrs, hcr, W3⟩
      have ei : (0 : Int) + (i : Int) * (w : Int) = ((i * w : Nat) : Int) := by rw [Int.zero_add, Int.natCast_mul]
      rw [ei]
      have hrl2 : rs.length = i := by
        have z := congrArg List.length hrs
        rw [List.length_map] at z
        rw [z]; unfold cutRows; rw [List.length_map, List.length_range]
      have hi2 : i ≤ 20000 := by
        have z : nRows cs.length w ≤ cs.length + 1 := nRows_le (by omega)
        unfold nRows at z
        omega
      walk_at "r"
      refine n_mid W3 (sq_of (W3.old _ _ (s3 _ _ h1))) fun pt F4 H4 e4 h4 W4 => ?_
      have hpd : DpAll c.K F4 ((cv.drop (i * w)).take (i * w + w - i * w)) (((cs.drop (i * w)).take w).map Cell.data) := by
        rw [Nat.add_sub_cancel_left, List.map_take, List.map_drop]
        exact dpAll_take w (dpAll_drop (i * w) ((Gr.of (s3.trans e4)).dpAll hd1))
      generalize (cv.drop (i * w)).take (i * w + w - i * w) = pv at h4 hpd
      have hpl := dpAll_len hpd
      rw [List.length_map] at hpl
      have hpw : ((cs.drop (i * w)).take w).length ≤ w := by rw [List.length_take]; omega
      walk_at "r"
      refine x_tylst (sq_of W4.get0) ?_
      walk_at "r"
      refine n_lstF W4 (sz rfl) fun pb F5 H5 e5 h5 W5 => ?_
      walk_at "r"
      refine l_lenL (sq_of (W5.old _ _ (e5 _ _ h4))) ?_
      rw [hpl]
      walk_at "r"
      rw [show ((w : Int) - (((cs.drop (i * w)).take w).length : Nat)) = ((w - ((cs.drop (i * w)).take w).length : Nat) : Int) by omega]
      refine n_repF W5 h5 (by omega) fun pc F6 H6 e6 h6 W6 => ?_
      refine n_addL W6 (W6.old _ _ (e6 _ _ (e5 _ _ h4))) (W6.old _ _ h6) (by rw [hpl, List.length_replicate]; exact szl (by omega)) fun cl H7 W7 => ?_
      walk_at "r"
      refine l_lenL (sq_of (W7.old _ _ ((s3.trans (e4.trans (e5.trans e6))) _ _ h1))) ?_
      rw [hcv]
      walk_at "r"
      refine x_an W7 fun ra rdx H8 W8 => ⟨ra, rdx, cl, _, F6, _, rfl, W8, fun H9 W9 => ⟨rfl, ?_⟩⟩
      walk_at "r"
      have W10 : Hold F6 ((D, .lst (rowRefs rs)) :: (ra, rowO c rdx cl (decide (((i * w + w : Nat) : Int) < (cs.length : Nat)))) :: (cl, .lst (pv ++ List.replicate (w - ((cs.drop (i * w)).take w).length) (.ref c.aBLANK))) :: (ownR c rs ++ L)) H9 := W9.perm (List.perm_append_comm (l₁ := [_, _]) (l₂ := [_]) |>.append_right _)
      refine x_push W10 (by unfold rowRefs; rw [List.length_map]; omega) fun H11 W11 => ?_
      walk_at "r"
      have eg : decide (((i * w + w : Nat) : Int) < (cs.length : Nat)) = decide (i * w + w < cs.length) := by
        rw [Bool.eq_iff_iff, decide_eq_true_eq, decide_eq_true_eq]; omega
      rw [eg] at W11
      refine ⟨_, _, rs ++ [⟨ra, rdx, cl, pv ++ List.replicate (w - ((cs.drop (i * w)).take w).length) (.ref c.aBLANK), cutRow cs w i⟩], F6, rfl, s3.trans (e4.trans (e5.trans e6)), ?_, ?_, ?_⟩
      · rw [List.map_append, hrs]; unfold cutRows; rw [List.range_succ, List.map_append]; rfl
      · intro r hr
        rcases List.mem_append.mp hr with hr | hr
        · exact (Gr.of (e4.trans (e5.trans e6))).dpAll (hcr r hr)
        · rw [List.mem_singleton.mp hr]
          show DpAll c.K F6 (pv ++ List.replicate _ _) ((((cs.drop (i * w)).take w) ++ List.replicate _ blankCell).map Cell.data)
          rw [List.map_append, List.map_replicate]
          exact dpAll_app ((Gr.of (e5.trans e6)).dpAll hpd) (dp_rep (U.blank F6) _)
      · rw [ownR_app]
        show Hold F6 ((D, .lst (rowRefs (rs ++ [_]))) :: ((ownR c rs ++ [_, _]) ++ L)) H11
        unfold rowRefs
        rw [List.map_append]
        refine W11.perm (List.Perm.cons _ ?_)
        rw [List.append_assoc]
        exact List.perm_append_comm_assoc [_, _] (ownR c rs) L
    · rintro σ H3 ⟨z5, z6, rs, F3, rfl, s3, hrs, hcr, W3⟩
      have hrs' : rs.map (·.row) = layRows ln w := by rw [hrows]; exact hrs
      have hrn : rs.length = (layRows ln w).length := by rw [← hrs', List.length_map]
      have ha3 := (e1.trans s3) _ _ ha
      have e4 := W3.freezeS
      have W4 := W3.freeze
      have h4 : (upd F3 D (.lst (rowRefs rs))) D = some (.lst (rowRefs rs)) := upd_same
      generalize upd F3 D (.lst (rowRefs rs)) = F4 at e4 W4 h4
      walk_at "r"
      refine x_get (W4.old _ _ (e4 _ _ ha3)) clL n9 fsLine_g1 ?_
      walk_at "r"
      cases hp : ln.place with
      | none =>
        refine wT rfl ?_
        walk_at "r"
        refine n_tupF W4 (sz rfl) fun t F5 H5 e5 h5 W5 => ?_
        refine kk t D .non rs F5 H5 (e1.trans (s3.trans (e4.trans e5))) h5 (e5 _ _ h4) hrs' (fun r hr => (Gr.of (e4.trans e5)).dpAll (hcr r hr)) ?_ W5
        unfold laySpot
        rw [hp]; rfl
      | some p =>
        refine wF rfl ?_
        walk_at "r"
        refine x_get (W4.old _ _ (e4 _ _ ha3)) clL n9 fsLine_g1 ?_
        rw [hp]
        walk_at "r"
        refine l_lenL (sq_of (W4.old _ _ h4)) ?_
        unfold rowRefs
        rw [List.length_map, hrn]
        walk_at "r"
        refine g_mulNN (by omega) (by omega) ?_
        show uEq c.K (.int (p : Nat)) (.int _) _ _
        refine l_eqII ?_
        walk_at "r"
        have hn1 : 1 ≤ (layRows ln w).length := by
          rw [hrows]; unfold cutRows nRows; rw [List.length_map, List.length_range]; exact Nat.le_add_left 1 _
        have fin : ∀ x y f, laySpot ln w = some (x, y, f) → aTup [.int ((x : Nat) : Int), .int ((y : Nat) : Int), .bl f] H3 fun v H1 => aTup [.ref D, v] H1 Q := fun x y f e => by
          refine n_tupF W4 (sz rfl) fun q F5 H5 e5 h5 W5 => ?_
          refine n_tupF W5 (sz rfl) fun t F6 H6 e6 h6 W6 => ?_
          refine kk t D (.ref q) rs F6 H6 (e1.trans (s3.trans (e4.trans (e5.trans e6)))) h6 (e6 _ _ (e5 _ _ h4)) hrs' (fun r hr => (Gr.of (e4.trans (e5.trans e6))).dpAll (hcr r hr)) ?_ W6
          rw [e]
          exact ⟨q, rfl, st_of (e6 _ _ h5)⟩
        by_cases hpw : p = (layRows ln w).length * w
        · refine wT (decide_eq_true (congrArg Int.ofNat hpw)) ?_
          walk_at "r"
          refine l_lenL (sq_of (W4.old _ _ h4)) ?_
          unfold rowRefs
          rw [List.length_map, hrn]
          walk_at "r"
          rw [show (((layRows ln w).length : Nat) : Int) - 1 = (((layRows ln w).length - 1 : Nat) : Int) by omega, show ((w : Nat) : Int) - 1 = ((w - 1 : Nat) : Int) by omega]
          refine fin _ _ _ ?_
          unfold laySpot
          rw [hp]
          show some (if p = (layRows ln w).length * w then _ else _) = _
          rw [if_pos hpw]
        · refine wF (decide_eq_false (fun z => hpw (Int.ofNat_inj.mp z))) ?_
          walk_at "r"
          refine x_get (W4.old _ _ (e4 _ _ ha3)) clL n9 fsLine_g1 ?_
          rw [hp]
          walk_at "r"
          refine (g_divNN (by omega) (by omega) ?_ : uDiv (.int (p : Nat)) (.int (w : Nat)) _ _)
          walk_at "r"
          refine x_get (W4.old _ _ (e4 _ _ ha3)) clL n9 fsLine_g1 ?_
          rw [hp]
          walk_at "r"
          refine (g_modNN (by omega) ?_ : uMod (.int (p : Nat)) (.int (w : Nat)) _ _)
          walk_at "r"
          refine fin _ _ _ ?_
          unfold laySpot
          rw [hp]
          show some (if p = (layRows ln w).length * w then _ else _) = _
          rw [if_neg hpw]
  cases hp : ln.place with
  | none =>
    refine x_c (l_is (x_bl (wT rfl (x_c (x_name (first 0 ?_))))))
    rw [hp]; rfl
  | some p =>
    refine x_c (l_is (x_bl (wF rfl (x_fld (x_var rfl (x_get (W.old _ _ ha) clL n9 fsLine_g1 ?_))))))
    rw [hp]
    refine x_name (first p ?_)
    rw [hp]; rfl
end
end Ss
/-! ## other sizes 4: all lines are laid -/
namespace Ss
open PySem PySem.Spec PyProof.Rows L2
open Ss in
local macro_rules | `(tactic| walk_at "fg") => `(tactic| first | with_reducible exact fsLine_g0 | with_reducible exact fsLine_g1 | with_reducible exact fsScreen_g0 | with_reducible exact fsScreen_g1 | with_reducible exact fsScreen_g2 | with_reducible exact fsScreen_g3 | with_reducible exact fsScreen_g4 | with_reducible exact fsScreen_g5 | with_reducible exact fsScreen_g6 | with_reducible exact fsScreen_g7 | with_reducible exact fsScreen_g8 | with_reducible exact fsScreen_g9 | with_reducible exact fsScreen_g10 | with_reducible exact fsScreen_g11 | with_reducible exact fsScreen_g12 | with_reducible exact fsScreen_g13 | with_reducible exact fsRow_g0 | with_reducible exact fsRow_g1)
open Ss in
local macro_rules | `(tactic| walk_at "r") => `(tactic| repeat (first
  | with_reducible refine x_seq ?_ | with_reducible refine x_asg ?_ | with_reducible refine x_var rfl ?_ | with_reducible refine x_c ?_ | with_reducible refine x_op ?_ | with_reducible refine x_name ?_ | with_reducible refine x_gcons ?_ | with_reducible refine x_gnil ?_
  | with_reducible refine x_cons ?_ | with_reducible refine x_nil ?_ | with_reducible refine x_cb ?_ | with_reducible refine x_ifs ?_ | with_reducible refine x_test ?_ | with_reducible refine x_bl ?_
  | with_reducible refine g_addNN ?_ | with_reducible refine g_addNL ?_ | with_reducible refine g_addLN ?_ | with_reducible refine l_addI ?_ | with_reducible refine l_subI ?_ | with_reducible refine g_ltNL ?_ | with_reducible refine l_ltI ?_ | with_reducible refine l_leI ?_ | with_reducible refine l_gtI ?_ | with_reducible refine l_geI ?_ | with_reducible refine l_eqX ?_ | with_reducible refine l_neX ?_ | with_reducible refine g_eqNL ?_ | with_reducible refine l_eqII ?_ | with_reducible refine l_neII ?_ | with_reducible refine l_eq rfl ?_ | with_reducible refine l_ne rfl ?_
  | with_reducible refine x_fld ?_ | with_reducible refine x_ret ?_ | with_reducible refine x_drop ?_ | with_reducible refine x_next ?_ | with_reducible refine x_tup ?_ | with_reducible refine x_lst ?_ | with_reducible refine x_f ?_ | with_reducible refine x_o ?_ | with_reducible refine x_n ?_
  | with_reducible refine x_bm ?_ | with_reducible refine x_bm0 ?_ | with_reducible refine x_m1 ?_ | with_reducible refine x_m0 ?_ | with_reducible refine x_isstr ?_ | with_reducible refine x_tystr ?_ | with_reducible refine x_sl ?_ | with_reducible refine x_part ?_ | with_reducible refine x_part' ?_ | with_reducible refine x_nopart ?_
  | with_reducible refine x_sfld ?_ | with_reducible refine x_if ?_ | with_reducible refine x_isty ?_ | with_reducible refine x_chain ?_ | with_reducible refine x_andV ?_ | with_reducible refine x_orV ?_ | with_reducible refine x_notV ?_ | with_reducible refine x_B ?_ | with_reducible refine x_and ?_ | with_reducible refine x_or ?_ | with_reducible refine x_not ?_ | with_reducible refine x_tru ?_ | with_reducible refine x_yes ?_
  | with_reducible refine x_un ?_ | with_reducible refine x_neg ?_ | with_reducible refine x_par ?_ | with_reducible refine x_par' ?_ | with_reducible refine x_retN ?_ | with_reducible refine x_brk ?_ | with_reducible refine x_cont ?_ | with_reducible refine x_rz ?_
  | with_reducible refine l_leS ?_ | with_reducible refine l_ltS ?_ | with_reducible refine l_inX ?_ | with_reducible refine l_niX ?_ | with_reducible refine l_inS ?_ | with_reducible refine l_niS ?_ | with_reducible refine l_count ?_ | with_reducible refine l_ord ?_ | with_reducible refine l_max ?_ | with_reducible refine l_min ?_ | with_reducible refine l_intI ?_ | with_reducible refine l_intB ?_ | with_reducible refine l_is ?_ | with_reducible refine l_isn ?_
  | with_reducible refine g_modNL (by decide) ?_ | with_reducible refine g_divNL (by decide) (by decide) ?_ | with_reducible refine l_modI (by decide) ?_ | with_reducible refine x_for ?_ | with_reducible refine x_lc ?_ | with_reducible refine x_ilist ?_ | with_reducible refine x_itup ?_ | with_reducible refine x_istr ?_ | with_reducible refine x_istr' ?_ | with_reducible refine x_irng1 ?_ | with_reducible refine x_irng2 ?_
  | (with_reducible refine x_get (by first | assumption | exact Hold.get0 (by assumption) | exact Hold.get1 (by assumption)) (by assumption) (by assumption) (by walk_at "fg") ?_)
  | (with_reducible refine x_ao (by first | assumption | exact Hold.get0 (by assumption) | exact Hold.get1 (by assumption)) (by kernel_rfl) ?_)
  | with_reducible refine x_ienum ?_ | with_reducible refine x_izip ?_ | with_reducible refine x_chain3 ?_
  | (with_reducible refine x_par2 ?_)
  | (with_reducible refine x_par3 ?_) | (with_reducible refine x_par3' ?_)))
def layStep (w : Nat) (a : List PRow × Option Spot) (ln : Ln) : List PRow × Option Spot := (a.1 ++ layRows ln w, match laySpot ln w with
  | some (x, y, f) => some (a.1.length + x, y, f)
  | none => a.2)
def layTo (ls : List Ln) (w i : Nat) : List PRow × Option Spot := (ls.take i).foldl (layStep w) ([], none)
def Scr.laidAll (S : Scr) (w : Nat) : List PRow × Option Spot := layTo S.lines w S.lines.length
theorem layTo_succ {ls : List Ln} {w i : Nat} (hi : i < ls.length) : layTo ls w (i + 1) = layStep w (layTo ls w i) (ls.getD i noLn) := by
  unfold layTo
  have e : ls.take (i + 1) = ls.take i ++ [ls.getD i noLn] := by
    rw [List.take_succ, List.getElem?_eq_getElem hi, List.getD_eq_getElem?_getD, List.getElem?_eq_getElem hi]; rfl
  rw [e, List.foldl_append]; rfl
/-- cells in all -/
def sumC (ls : List Ln) : Nat := (ls.map fun l => l.cells.length).sum
theorem sumC_app (a b : List Ln) : sumC (a ++ b) = sumC a + sumC b := by unfold sumC; rw [List.map_append, List.sum_append]
theorem sumC_mem {ls : List Ln} {l : Ln} (h : l ∈ ls) : l.cells.length ≤ sumC ls := by
  induction ls with
  | nil => cases h
  | cons x ls ih =>
    have e : sumC (x :: ls) = x.cells.length + sumC ls := rfl
    rw [e]
    rcases List.mem_cons.mp h with rfl | h
    · omega
    · have := ih h; omega
theorem modLast_cases (f : Ln → Ln) (ls : List Ln) : (ls = [] ∧ modLast f ls = []) ∨ ∃ l0 x, ls = l0 ++ [x] ∧ modLast f ls = l0 ++ [f x] := by
  by_cases h : ls = []
  · exact .inl ⟨h, by rw [h]; rfl⟩
  · refine .inr ⟨ls.dropLast, ls.getLast h, (List.dropLast_concat_getLast h).symm, ?_⟩
    conv => lhs; rw [← List.dropLast_concat_getLast h]
    exact modLast_snoc f _ _
/-- the lines are few, their cells too, and they are cells -/
structure LnsOk (ls : List Ln) (n : Nat) : Prop where
  len : ls.length ≤ n
  sum : sumC ls ≤ 60 * n
  ok : ∀ l ∈ ls, ∀ x ∈ l.cells, x.Ok
theorem LnsOk.mod {ls : List Ln} {n : Nat} {f : Ln → Ln} (h : LnsOk ls n) (hf : ∀ l, (f l).cells = l.cells) : LnsOk (modLast f ls) n := by
  rcases modLast_cases f ls with ⟨_, e⟩ | ⟨l0, x, e1, e2⟩
  · rw [e]; exact ⟨Nat.zero_le _, Nat.zero_le _, fun _ h => (nomatch h)⟩
  · obtain ⟨a, b, d⟩ := h
    rw [e1] at a b d
    rw [e2]
    refine ⟨by rw [List.length_append] at a ⊢; exact a, ?_, fun l hl => ?_⟩
    · rw [sumC_app] at b ⊢
      have z : sumC [f x] = sumC [x] := by show (f x).cells.length + 0 = x.cells.length + 0; rw [hf]
      rw [z]; exact b
    · rcases List.mem_append.mp hl with hl | hl
      · exact d l (List.mem_append_left _ hl)
      · rw [List.mem_singleton.mp hl, hf]; exact d x (by simp)
theorem LnsOk.grow {ls : List Ln} {n : Nat} {p : PRow} (h : ls.length ≤ n + 1) (hs : sumC ls ≤ 60 * n) (hok : ∀ l ∈ ls, ∀ x ∈ l.cells, x.Ok) (hp : p.cells.length ≤ 60) (ho : p.Ok) : LnsOk (modLast (fun l => ⟨l.cells ++ p.cells, l.place⟩) ls) (n + 1) := by
  rcases modLast_cases (fun l => (⟨l.cells ++ p.cells, l.place⟩ : Ln)) ls with ⟨_, e⟩ | ⟨l0, x, e1, e2⟩
  · rw [e]; exact ⟨Nat.zero_le _, Nat.zero_le _, fun _ h => (nomatch h)⟩
  · rw [e1] at h hs hok
    rw [e2]
    refine ⟨by rw [List.length_append] at h ⊢; exact h, ?_, fun l hl => ?_⟩
    · rw [sumC_app] at hs ⊢
      have z1 : sumC [x] = x.cells.length := Nat.add_zero _
      have z2 : sumC [(⟨x.cells ++ p.cells, x.place⟩ : Ln)] = x.cells.length + p.cells.length := by show (x.cells ++ p.cells).length + 0 = _; rw [List.length_append]; rfl
      rw [z1] at hs
      rw [z2]; omega
    · rcases List.mem_append.mp hl with hl | hl
      · exact hok l (List.mem_append_left _ hl)
      · rw [List.mem_singleton.mp hl]
        intro y hy
        rcases List.mem_append.mp hy with hy | hy
        · exact hok x (by simp) y hy
        · exact ho y hy
namespace Scr
variable {S : Scr}
theorem all_get (w : S.Wf) (ok : S.Ok) (i : Nat) : (S.all.getD i noRow).cells.length ≤ 60 ∧ (S.all.getD i noRow).Ok := by
  have w2 := w.w2
  by_cases hi : i < S.all.length
  · rcases List.mem_append.mp (getD_mem (d := noRow) hi) with h | h
    · exact ⟨Nat.le_trans (Nat.le_of_eq (w.pw _ h)) w2, ok.past _ h⟩
    · exact ⟨Nat.le_trans (Nat.le_of_eq (w.rw _ h)) w2, ok.rows _ h⟩
  · rw [List.getD_eq_getElem?_getD, List.getElem?_eq_none (by omega)]
    exact ⟨Nat.zero_le _, fun x hx => (nomatch hx)⟩
theorem linesTo_ok (w : S.Wf) (ok : S.Ok) : ∀ i, LnsOk (S.linesTo i).1 i
  | 0 => ⟨Nat.zero_le _, Nat.zero_le _, fun _ h => (nomatch h)⟩
  | i + 1 => by
    have ih := linesTo_ok w ok i
    obtain ⟨hp, ho⟩ := all_get w ok i
    show LnsOk (S.lnStep (S.linesTo i) i (S.all.getD i noRow)).1 (i + 1)
    unfold lnStep
    have h1 : LnsOk (if (S.linesTo i).2 = true then (S.linesTo i).1 else (S.linesTo i).1 ++ [noLn]) (i + 1) ∧ sumC (if (S.linesTo i).2 = true then (S.linesTo i).1 else (S.linesTo i).1 ++ [noLn]) ≤ 60 * i := by
      split
      · exact ⟨⟨Nat.le_succ_of_le ih.len, Nat.le_trans ih.sum (by omega), ih.ok⟩, ih.sum⟩
      · have e : sumC ((S.linesTo i).1 ++ [noLn]) = sumC (S.linesTo i).1 := by rw [sumC_app]; rfl
        refine ⟨⟨by rw [List.length_append]; exact Nat.succ_le_succ ih.len, by rw [e]; exact Nat.le_trans ih.sum (by omega), fun l hl => ?_⟩, by rw [e]; exact ih.sum⟩
        rcases List.mem_append.mp hl with hl | hl
        · exact ih.ok l hl
        · rw [List.mem_singleton.mp hl]; exact fun x hx => (nomatch hx)
    obtain ⟨a1, s1⟩ := h1
    generalize (if (S.linesTo i).2 = true then (S.linesTo i).1 else (S.linesTo i).1 ++ [noLn]) = f1 at a1 s1
    split
    · have a2 := a1.mod (f := fun l => (⟨l.cells, some (l.cells.length + S.column + b2n S.full)⟩ : Ln)) fun _ => rfl
      have s2 : sumC (modLast (fun l => (⟨l.cells, some (l.cells.length + S.column + b2n S.full)⟩ : Ln)) f1) ≤ 60 * i := by
        rcases modLast_cases (fun l => (⟨l.cells, some (l.cells.length + S.column + b2n S.full)⟩ : Ln)) f1 with ⟨_, e⟩ | ⟨l0, x, e1, e2⟩
        · rw [e]; exact Nat.zero_le _
        · rw [e2, sumC_app]; rw [e1, sumC_app] at s1; exact s1
      exact LnsOk.grow a2.len s2 a2.ok hp ho
    · exact LnsOk.grow a1.len s1 a1.ok hp ho
theorem lines_ok (w : S.Wf) (ok : S.Ok) : LnsOk S.lines 240 := by
  have h1 : S.lastRow ≤ S.all.length := lastN_le _ _ _
  have h2 : S.all.length ≤ 240 := by
    unfold all
    rw [List.length_append, w.rl]
    have := w.pl; have := w.m; have := w.h2; omega
  have z := linesTo_ok w ok S.lastRow
  exact ⟨Nat.le_trans z.len (by omega), Nat.le_trans z.sum (by omega), z.ok⟩
end Scr
theorem layTo_len {ls : List Ln} {w : Nat} (hw : 1 ≤ w) : ∀ i, i ≤ ls.length → (layTo ls w i).1.length ≤ sumC (ls.take i) + i
  | 0, _ => by show 0 ≤ _; exact Nat.zero_le _
  | i + 1, hi => by
    have ih := layTo_len (ls := ls) hw i (by omega)
    rw [layTo_succ (by omega)]
    show ((layTo ls w i).1 ++ layRows (ls.getD i noLn) w).length ≤ _
    have e : ls.take (i + 1) = ls.take i ++ [ls.getD i noLn] := by
      rw [List.take_succ, List.getElem?_eq_getElem (by omega), List.getD_eq_getElem?_getD, List.getElem?_eq_getElem (by omega)]; rfl
    rw [e, sumC_app, List.length_append]
    have h1 := layRows_len (ls.getD i noLn) hw
    have z1 : sumC [ls.getD i noLn] = (ls.getD i noLn).cells.length := Nat.add_zero _
    omega
theorem sumC_take (ls : List Ln) (i : Nat) : sumC (ls.take i) ≤ sumC ls := by
  conv => rhs; rw [← List.take_append_drop i ls, sumC_app]
  omega
def sp_all_laid (c : Ctx) : Sp := fun vs H Q _ => ∃ (s : Addr) (C : ScrC) (S : Scr) (w : Nat) (F : Hp) (L : List (Addr × HO)), vs = [.ref s, .int (w : Nat)] ∧ ScrAt c F C S ∧ (∀ r ∈ C.rows, Pin c F r) ∧ S.Ok ∧ 2 ≤ w ∧ w ≤ 60 ∧ Hold F ((s, scrO c C S) :: L) H ∧
  ∀ (t D : Addr) (sv : V) (rs : List RowC) F' H', Same F F' → F' t = some (.tup [.ref D, sv]) → F' D = some (.lst (rowRefs rs)) → rs.map (·.row) = (S.laidAll w).1 → (∀ r ∈ rs, cellsAt c F' r) → SpotAt c F' sv (S.laidAll w).2 → Hold F' (ownR c rs ++ ((s, scrO c C S) :: L)) H' → Q (.ref t) H'
def t_all_laid (c : Ctx) (E : XK) : TS :=
  (tSeq (tAsg (tLst tNil) (gName 2))
  (tSeq (tAsg (tC .non) (gName 3))
  (tSeq (tFor (iList c.K (tF (sp_lines_of c) E0 (tCons (tVar 0) tNil))) (gName 4) (tSeq (tAsg (tF (sp_laid c) E0 (tCons (tVar 4) (tCons (tVar 1) tNil))) (gTup c.K 2 (gCons (gName 5) (gCons (gName 6) gNil))))
  (tSeq (tIfS (tTest (tOp uIsNot (tVar 6) (tC .non))) (tAsg (tTup (tCons (tOp (uAdd c.K) (tCB (uLen c.K) (tCons (tVar 2) tNil)) (tOp (uIx c.K) (tVar 6) (tC (.int 0)))) (tCons (tOp (uIx c.K) (tVar 6) (tC (.int 1))) (tCons (tOp (uIx c.K) (tVar 6) (tC (.int 2))) tNil)))) (gName 3)) tNext)
  (tAsg (tOp (uAdd c.K) (tVar 2) (tVar 5)) (gName 2)))))
  (tRet (tTup (tCons (tVar 2) (tCons (tVar 3) tNil)))))))
abbrev N_all_laid : List Str := ["screen", "wide", "rows", "cursor", "line", "some", "place"]

section
variable {c : Ctx}
theorem rd_all_laid : RD N_all_laid (t_all_laid c) (sp_all_laid c) := by
  rintro vs H Q E ⟨s, C, S, w, F, L, rfl, A, hpin, ok, hw1, hw2, W, kk⟩
  have lok := Scr.lines_ok A.wf ok
  unfold t_all_laid
  walk_at "r"
  refine n_lstF W (sz rfl) fun D0 F1 H1 e1 h1 W1 => ?_
  walk_at "r"
  refine ⟨s, C, S, F1, L, rfl, A.gr (Gr.of e1), fun r hr => (hpin r hr).gr (Gr.of e1), ok, W1, fun p ys F2 H2 e2 h2 hL W2 => ?_⟩
  have hyl := hL.1
  have hln := lok.len
  refine x_ilist' (W2.gr.sqL (sq_of h2)) ?_
  refine x_forOk (F := F2) (ItOk.list (sq_of h2)) (fun i σ H' => ∃ z4 z5 z6 D cv rs F', σ = [some (.ref s), some (.int (w : Nat)), some (.ref D), some cv, z4, z5, z6] ∧ Same F2 F' ∧ F' D = some (.lst (rowRefs rs)) ∧ rs.map (·.row) = (layTo S.lines w i).1 ∧ (∀ r ∈ rs, cellsAt c F' r) ∧ SpotAt c F' cv (layTo S.lines w i).2 ∧ Hold F' (ownR c rs ++ ((s, scrO c C S) :: L)) H')
    (fun i σ H' _ ⟨_, _, _, _, _, _, F', _, s', _, _, _, _, W'⟩ => (Gr.of s').trans W'.gr) ⟨_, _, _, D0, .non, [], F2, rfl, Same.refl F2, e2 _ _ h1, rfl, fun _ h => (nomatch h), rfl, W2⟩ ?_ ?_
  · rintro i σ H3 hi ⟨z4, z5, z6, D, cv, rs, F3, rfl, s3, hD, hrs, hcr, hsp, W3⟩
    rw [hyl] at hi
    have hv := (hL.2 i hi).gr (Gr.of s3)
    have hlm := getD_mem (d := noLn) hi
    have est := layTo_succ (w := w) hi
    have hcl := Nat.le_trans (sumC_mem hlm) lok.sum
    have hlo := lok.ok _ hlm
    have hll := layTo_len (w := w) (by omega) i (Nat.le_of_lt hi)
    have hst := Nat.le_trans (sumC_take S.lines i) lok.sum
    have hlr := layRows_len (S.lines.getD i noLn) (w := w) (by omega)
    have hrl : rs.length = (layTo S.lines w i).1.length := by rw [← hrs, List.length_map]
    generalize S.lines.getD i noLn = ln at hv est hcl hlo hlr
    generalize ys.getD i .non = v at hv ⊢
    walk_at "r"
    refine ⟨v, ln, w, F3, _, rfl, hv, hlo, by omega, hw1, hw2, W3, fun t D2 sv rs2 F4 H4 e4 h4 hD2 hrs2 hcr2 hsp2 W4 => ?_⟩
    have hrl2 : rs2.length = (layRows ln w).length := by rw [← hrs2, List.length_map]
    refine x_gtup (st_of (W4.old _ _ h4)) rfl ?_
    walk_at "r"
    have W4' : Hold F4 (ownR c (rs ++ rs2) ++ ((s, scrO c C S) :: L)) H4 := by
      rw [ownR_app, List.append_assoc]
      exact W4.perm (List.perm_append_comm_assoc (ownR c rs2) (ownR c rs) _)
    have fin : ∀ cv' F5 H5, Same F4 F5 → SpotAt c F5 cv' (layTo S.lines w (i + 1)).2 → Hold F5 (ownR c (rs ++ rs2) ++ ((s, scrO c C S) :: L)) H5 →
        tAsg (tOp (uAdd c.K) (tVar 2) (tVar 5)) (gName 2) ⟨fun σ H' => ∃ z4 z5 z6 D cv rs F', σ = [some (.ref s), some (.int (w : Nat)), some (.ref D), some cv, z4, z5, z6] ∧ Same F2 F' ∧ F' D = some (.lst (rowRefs rs)) ∧ rs.map (·.row) = (layTo S.lines w (i + 1)).1 ∧ (∀ r ∈ rs, cellsAt c F' r) ∧ SpotAt c F' cv (layTo S.lines w (i + 1)).2 ∧ Hold F' (ownR c rs ++ ((s, scrO c C S) :: L)) H', Q, fun _ _ => False, fun _ _ => False⟩
          [some (.ref s), some (.int (w : Nat)), some (.ref D), some cv', some v, some (.ref D2), some sv] H5 := fun cv' F5 H5 e5 hs5 W5 => by
      walk_at "r"
      refine n_addF W5 (W5.old _ _ ((e4.trans e5) _ _ hD)) (W5.old _ _ (e5 _ _ hD2)) (by unfold rowRefs; rw [List.length_map, List.length_map]; exact szl (by omega)) fun D3 F6 H6 e6 h6 W6 => ?_
      walk_at "r"
      refine ⟨_, _, _, D3, cv', rs ++ rs2, F6, rfl, s3.trans (e4.trans (e5.trans e6)), ?_, ?_, ?_, hs5.gr (Gr.of e6), W6⟩
      · rw [h6]; unfold rowRefs; rw [List.map_append]
      · rw [List.map_append, hrs, hrs2, est]; rfl
      · intro r hr
        rcases List.mem_append.mp hr with hr | hr
        · exact (Gr.of (e4.trans (e5.trans e6))).dpAll (hcr r hr)
        · exact (Gr.of (e5.trans e6)).dpAll (hcr2 r hr)
    cases hls : laySpot ln w with
    | none =>
      rw [hls] at hsp2
      have es : sv = .non := hsp2
      subst es
      refine wF rfl ?_
      refine x_next (fin cv F4 H4 (Same.refl F4) ?_ W4')
      rw [est]
      show SpotAt c F4 cv (match laySpot ln w with | some (x, y, f) => some ((layTo S.lines w i).1.length + x, y, f) | none => (layTo S.lines w i).2)
      rw [hls]
      exact hsp.gr (Gr.of e4)
    | some o =>
      obtain ⟨x, y, f⟩ := o
      rw [hls] at hsp2
      obtain ⟨q, rfl, hq⟩ := hsp2
      refine wT rfl ?_
      walk_at "r"
      refine l_lenL (sq_of (W4.old _ _ (e4 _ _ hD))) ?_
      unfold rowRefs
      rw [List.length_map, hrl]
      walk_at "r"
      refine l_ixT (W4.gr.sqT hq) (by rfl) ?_
      walk_at "r"
      refine l_ixT (W4.gr.sqT hq) (by rfl) ?_
      walk_at "r"
      refine l_ixT (W4.gr.sqT hq) (by rfl) ?_
      walk_at "r"
      refine n_tupF W4' (sz rfl) fun q2 F5 H5 e5 h5 W5 => ?_
      refine x_name (fin (.ref q2) F5 H5 e5 ?_ W5)
      rw [est]
      show SpotAt c F5 (.ref q2) (match laySpot ln w with | some (x, y, f) => some ((layTo S.lines w i).1.length + x, y, f) | none => (layTo S.lines w i).2)
      rw [hls]
      exact ⟨q2, rfl, st_of h5⟩
  · rintro σ H3 ⟨z4, z5, z6, D, cv, rs, F3, rfl, s3, hD, hrs, hcr, hsp, W3⟩
    rw [hyl] at hrs hsp
    walk_at "r"
    refine n_tupF W3 (sz rfl) fun t F4 H4 e4 h4 W4 => ?_
    exact kk t D cv rs F4 H4 (e1.trans (e2.trans (s3.trans e4))) h4 (e4 _ _ hD) hrs (fun r hr => (Gr.of e4).dpAll (hcr r hr)) (hsp.gr (Gr.of e4)) W4
end
end Ss
/-! ## other sizes 5: a screen gets other sizes -/
namespace Ss
open PySem PySem.Spec PyProof.Rows L2
open Ss in
local macro_rules | `(tactic| walk_at "fg") => `(tactic| first | with_reducible exact fsLine_g0 | with_reducible exact fsLine_g1 | with_reducible exact fsScreen_g0 | with_reducible exact fsScreen_g1 | with_reducible exact fsScreen_g2 | with_reducible exact fsScreen_g3 | with_reducible exact fsScreen_g4 | with_reducible exact fsScreen_g5 | with_reducible exact fsScreen_g6 | with_reducible exact fsScreen_g7 | with_reducible exact fsScreen_g8 | with_reducible exact fsScreen_g9 | with_reducible exact fsScreen_g10 | with_reducible exact fsScreen_g11 | with_reducible exact fsScreen_g12 | with_reducible exact fsScreen_g13 | with_reducible exact fsRow_g0 | with_reducible exact fsRow_g1)
open Ss in
local macro_rules | `(tactic| walk_at "r") => `(tactic| repeat (first
  | with_reducible refine x_seq ?_ | with_reducible refine x_asg ?_ | with_reducible refine x_var rfl ?_ | with_reducible refine x_c ?_ | with_reducible refine x_op ?_ | with_reducible refine x_name ?_ | with_reducible refine x_gcons ?_ | with_reducible refine x_gnil ?_
  | with_reducible refine x_cons ?_ | with_reducible refine x_nil ?_ | with_reducible refine x_cb ?_ | with_reducible refine x_ifs ?_ | with_reducible refine x_test ?_ | with_reducible refine x_bl ?_
  | with_reducible refine g_addNN ?_ | with_reducible refine g_addNL ?_ | with_reducible refine g_addLN ?_ | with_reducible refine l_addI ?_ | with_reducible refine l_subI ?_ | with_reducible refine g_ltNL ?_ | with_reducible refine l_ltI ?_ | with_reducible refine l_leI ?_ | with_reducible refine l_gtI ?_ | with_reducible refine l_geI ?_ | with_reducible refine l_eqX ?_ | with_reducible refine l_neX ?_ | with_reducible refine g_eqNL ?_ | with_reducible refine l_eqII ?_ | with_reducible refine l_neII ?_ | with_reducible refine l_eq rfl ?_ | with_reducible refine l_ne rfl ?_
  | with_reducible refine x_fld ?_ | with_reducible refine x_ret ?_ | with_reducible refine x_drop ?_ | with_reducible refine x_next ?_ | with_reducible refine x_tup ?_ | with_reducible refine x_lst ?_ | with_reducible refine x_f ?_ | with_reducible refine x_o ?_ | with_reducible refine x_n ?_
  | with_reducible refine x_bm ?_ | with_reducible refine x_bm0 ?_ | with_reducible refine x_m1 ?_ | with_reducible refine x_m0 ?_ | with_reducible refine x_isstr ?_ | with_reducible refine x_tystr ?_ | with_reducible refine x_sl ?_ | with_reducible refine x_part ?_ | with_reducible refine x_part' ?_ | with_reducible refine x_nopart ?_
  | with_reducible refine x_sfld ?_ | with_reducible refine x_if ?_ | with_reducible refine x_isty ?_ | with_reducible refine x_chain ?_ | with_reducible refine x_andV ?_ | with_reducible refine x_orV ?_ | with_reducible refine x_notV ?_ | with_reducible refine x_B ?_ | with_reducible refine x_and ?_ | with_reducible refine x_or ?_ | with_reducible refine x_not ?_ | with_reducible refine x_tru ?_ | with_reducible refine x_yes ?_
  | with_reducible refine x_un ?_ | with_reducible refine x_neg ?_ | with_reducible refine x_par ?_ | with_reducible refine x_par' ?_ | with_reducible refine x_retN ?_ | with_reducible refine x_brk ?_ | with_reducible refine x_cont ?_ | with_reducible refine x_rz ?_
  | with_reducible refine l_leS ?_ | with_reducible refine l_ltS ?_ | with_reducible refine l_inX ?_ | with_reducible refine l_niX ?_ | with_reducible refine l_inS ?_ | with_reducible refine l_niS ?_ | with_reducible refine l_count ?_ | with_reducible refine l_ord ?_ | with_reducible refine l_max ?_ | with_reducible refine l_min ?_ | with_reducible refine l_intI ?_ | with_reducible refine l_intB ?_ | with_reducible refine l_is ?_ | with_reducible refine l_isn ?_
  | with_reducible refine g_modNL (by decide) ?_ | with_reducible refine g_divNL (by decide) (by decide) ?_ | with_reducible refine l_modI (by decide) ?_ | with_reducible refine x_for ?_ | with_reducible refine x_lc ?_ | with_reducible refine x_ilist ?_ | with_reducible refine x_itup ?_ | with_reducible refine x_istr ?_ | with_reducible refine x_istr' ?_ | with_reducible refine x_irng1 ?_ | with_reducible refine x_irng2 ?_
  | (with_reducible refine x_get (by first | assumption | exact Hold.get0 (by assumption) | exact Hold.get1 (by assumption)) (by assumption) (by assumption) (by walk_at "fg") ?_)
  | (with_reducible refine x_ao (by first | assumption | exact Hold.get0 (by assumption) | exact Hold.get1 (by assumption)) (by kernel_rfl) ?_)
  | with_reducible refine x_ienum ?_ | with_reducible refine x_izip ?_ | with_reducible refine x_chain3 ?_
  | (with_reducible refine x_par2 ?_)
  | (with_reducible refine x_par3 ?_) | (with_reducible refine x_par3' ?_)))
namespace Scr
def rszCur (S : Scr) (w : Nat) : Spot := (S.laidAll w).2.getD (0, 0, false)
def rszFirst (S : Scr) (w h : Nat) : Nat := min ((S.laidAll w).1.length - h) (S.rszCur w).1
def rszShown (S : Scr) (w h : Nat) : List PRow := ((S.laidAll w).1.drop (S.rszFirst w h)).take h
def rszRows (S : Scr) (w h : Nat) : List PRow := S.rszShown w h ++ List.replicate (h - (S.rszShown w h).length) (blankRow w)
def rszPast (S : Scr) (w h : Nat) : List PRow := ((S.laidAll w).1.take (S.rszFirst w h)).drop (S.rszFirst w h - S.most)
/-- behind all but where the cursor stands -/
def rsz0 (S : Scr) (w h : Nat) : Scr := ({ S with wide := w, high := h, past := S.rszPast w h, rows := S.rszRows w h, row := 0, column := 0, top := 0, bottom := h - 1, putBy := (min S.putBy.1 (h - 1), min S.putBy.2.1 (w - 1), S.putBy.2.2) } : Scr).setGoes (h - 1) false
def resized (S : Scr) (w h : Nat) : Scr := { (S.rsz0 w h).stand (((S.rszCur w).1 : Int) - (S.rszFirst w h : Nat)) ((S.rszCur w).2.1 : Nat) with full := (S.rszCur w).2.2 }
/-- there is a line in which the cursor is -/
theorem here_last (S : Scr) : ∀ n, S.here < n → S.here < lastN S.all S.here n
  | 0, h => absurd h (Nat.not_lt_zero _)
  | n + 1, h => by
    unfold lastN
    split
    · next z => exact here_last S n z.1
    · exact h
end Scr
def hasPlace (ls : List Ln) : Prop := ∃ l ∈ ls, l.place ≠ none
theorem hasPlace_mod {f : Ln → Ln} (hf : ∀ l, (f l).place = none → l.place = none) {ls : List Ln} (h : hasPlace ls) : hasPlace (modLast f ls) := by
  obtain ⟨l, hl, hp⟩ := h
  rcases modLast_cases f ls with ⟨e, _⟩ | ⟨l0, x, e1, e2⟩
  · rw [e] at hl; cases hl
  · rw [e1] at hl
    rw [e2]
    rcases List.mem_append.mp hl with hl | hl
    · exact ⟨l, List.mem_append_left _ hl, hp⟩
    · rw [List.mem_singleton.mp hl] at hp
      exact ⟨f x, by simp, fun z => hp (hf _ z)⟩
theorem modLast_ne {f : Ln → Ln} {ls : List Ln} (h : ls ≠ []) : modLast f ls ≠ [] := by
  rcases modLast_cases f ls with ⟨e, _⟩ | ⟨l0, x, _, e2⟩
  · exact absurd e h
  · rw [e2]; simp
namespace Scr
theorem f1_ne {S : Scr} : ∀ i, (if (S.linesTo i).2 = true then (S.linesTo i).1 else (S.linesTo i).1 ++ [noLn]) ≠ []
  | 0 => by
    show (if false = true then _ else _ ++ [noLn]) ≠ []
    simp
  | i + 1 => by
    have ih := f1_ne (S := S) i
    have e : (S.linesTo (i + 1)).1 ≠ [] := by
      show (S.lnStep (S.linesTo i) i (S.all.getD i noRow)).1 ≠ []
      unfold lnStep
      refine modLast_ne ?_
      split
      · exact modLast_ne ih
      · exact ih
    split
    · exact e
    · simp
theorem place_at {S : Scr} (i : Nat) (h : S.here < i) : hasPlace (S.linesTo i).1 := by
  induction i with
  | zero => exact absurd h (Nat.not_lt_zero _)
  | succ i ih =>
    show hasPlace (S.lnStep (S.linesTo i) i (S.all.getD i noRow)).1
    unfold lnStep
    refine hasPlace_mod (f := fun l => (⟨l.cells ++ (S.all.getD i noRow).cells, l.place⟩ : Ln)) (fun _ z => z) ?_
    by_cases hi : i = S.here
    · rw [if_pos hi]
      have ne := f1_ne (S := S) i
      rcases modLast_cases (fun l => (⟨l.cells, some (l.cells.length + S.column + b2n S.full)⟩ : Ln)) (if (S.linesTo i).2 = true then (S.linesTo i).1 else (S.linesTo i).1 ++ [noLn]) with ⟨e, _⟩ | ⟨l0, x, e1, e2⟩
      · exact absurd e ne
      · rw [e2]; exact ⟨_, List.mem_append_right _ (List.mem_singleton.mpr rfl), fun z => by cases z⟩
    · rw [if_neg hi]
      have hh := ih (by omega)
      split
      · exact hh
      · obtain ⟨l, hl, hp⟩ := hh
        exact ⟨l, List.mem_append_left _ hl, hp⟩
end Scr
section
variable {c : Ctx}
theorem x_freshV {σ : L2.St} {F H : Hp} {base : List (Addr × HO)} {Q : VK} {J : It} {n w j m : Nat} {item : Nat → V} (ok : ItOk J F n item) (W : Hold F base H)
    (hw2 : w ≤ 60) (hn : n ≤ 1000) (hj : m ≠ j) (h0 : σ[m]? = some (some (.int (w : Nat))))
    (dn : ∀ (D : Addr) (fr : List RowC) (F' H' : Hp), Same F F' → fr.length = n → (∀ r ∈ fr, r.row = blankRow w ∧ cellsAt c F' r) → F' D = some (.lst (rowRefs fr)) → Hold F' (ownR c fr ++ base) H' → Q (.ref D) H') :
    aLc J (gName j) tYes (tF (sp_blank_row c) E0 (tCons (tVar m) tNil)) [j] σ H Q := by
  have h0' : (σ.set j none)[m]? = some (some (.int (w : Nat))) := by rw [List.getElem?_set_ne (by omega)]; exact h0
  refine x_lcG (F := F) ok W (by omega) (fun i ys F' L' => ∃ fr : List RowC, fr.length = i ∧ ys = rowRefs fr ∧ (∀ r ∈ fr, r.row = blankRow w ∧ cellsAt c F' r) ∧ List.Perm L' (ownR c fr ++ base)) ⟨[], rfl, rfl, fun _ h => (nomatch h), .refl _⟩
    (fun d i ys F' L' H' QQ hi s1 P W' kq => ?_) gm_name (fun D ys F' H' L' s1 hl P W' => ?_)
  · obtain ⟨fr, hfl, rfl, hfr, hp⟩ := P
    refine ⟨wipe1, ?_⟩
    refine x_f (x_cons (x_var (v := .int (w : Nat)) ?_ ?_))
    · show ((σ.set j none).set j _)[m]? = _
      rw [List.getElem?_set_ne (by omega)]; exact h0'
    refine x_nil ⟨w, F', L' ++ [d], rfl, hw2, W', fun r F4 H4 s4 hr hc W4 => ?_⟩
    refine kq (.ref r.a) F4 ((r.a, rowO c r.dx r.cl r.row.goes) :: (r.cl, .lst r.vals) :: L') H4 s4 W4 ⟨fr ++ [r], by rw [List.length_append, hfl]; rfl, by unfold rowRefs; rw [List.map_append]; rfl, fun z hz => ?_, ?_⟩
    · rcases List.mem_append.mp hz with h | h
      · exact ⟨(hfr z h).1, (Gr.of s4).dpAll (hfr z h).2⟩
      · rw [List.mem_singleton.mp h]; exact ⟨hr, hc⟩
    · refine ((hp.cons _).cons _).trans ?_
      rw [ownR_app, List.append_assoc]
      exact List.perm_append_comm_assoc [(r.a, rowO c r.dx r.cl r.row.goes), (r.cl, HO.lst r.vals)] (ownR c fr) _
  · obtain ⟨fr, hfl, rfl, hfr, hp⟩ := P
    have W2 : Hold F' ((D, .lst (rowRefs fr)) :: (ownR c fr ++ base)) H' := W'.perm (hp.cons _)
    refine dn D fr _ H' (s1.trans W2.freezeS) hfl (fun r hr => ⟨(hfr r hr).1, (Gr.of W2.freezeS).dpAll (hfr r hr).2⟩) upd_same W2.freeze
def sp_resize (c : Ctx) : Sp := fun vs H Q E => ∃ (s : Addr) (C : ScrC) (S : Scr) (x y : V) (F : Hp) (L : List (Addr × HO)), vs = [.ref s, x, y] ∧ CntArg c F x ∧ CntArg c F y ∧ ScrAt c F C S ∧ S.Ok ∧ Hold F (scrL c s C S L) H ∧
  (∀ w h : Nat, x = .int (w : Nat) → y = .int (h : Nat) → (2 ≤ w ∧ w ≤ 60) → (2 ≤ h ∧ h ≤ 40) → ScrTo c s F L (S.resized w h) Q) ∧ ((cntOk x 2 60 && cntOk y 2 40) = false → E (.ref c.cBadSize) none H)
def t_resize (c : Ctx) (E : XK) : TS :=
  (tSeq (tDrop (tF (sp_need_size c) E (tCons (tAndV (tF (sp_is_count c) E0 (tCons (tVar 1) (tCons (tC (v_LEAST_WIDE c)) (tCons (tC (v_MOST_WIDE c)) tNil)))) (tF (sp_is_count c) E0 (tCons (tVar 2) (tCons (tC (v_LEAST_HIGH c)) (tCons (tC (v_MOST_HIGH c)) tNil))))) tNil)))
  (tSeq (tAsg (tF (sp_all_laid c) E0 (tCons (tVar 0) (tCons (tVar 1) tNil))) (gTup c.K 2 (gCons (gName 3) (gCons (gName 4) gNil))))
  (tSeq (tAsg (tCB uMax (tCons (tC (.int 0)) (tCons (tOp uSub (tCB (uLen c.K) (tCons (tVar 3) tNil)) (tVar 2)) tNil))) (gName 5))
  (tSeq (tAsg (tCB uMin (tCons (tVar 5) (tCons (tOp (uIx c.K) (tVar 4) (tC (.int 0))) tNil))) (gName 5))
  (tSeq (tAsg (tSl (uSl c.K) (tVar 3) (tPart (tVar 5)) (tPart (tOp (uAdd c.K) (tVar 5) (tVar 2)))) (gName 6))
  (tSeq (sFld c.K (tVar 0) (tSl (uSl c.K) (tSl (uSl c.K) (tVar 3) tNoPart (tPart (tVar 5))) (tPart (tCB uMax (tCons (tC (.int 0)) (tCons (tOp uSub (tVar 5) (tFld c.K (tVar 0) "most")) tNil)))) tNoPart) "past")
  (tSeq (sFld c.K (tVar 0) (tOp (uAdd c.K) (tVar 6) (tLc (iRng1 (tCons (tOp uSub (tVar 2) (tCB (uLen c.K) (tCons (tVar 6) tNil))) tNil)) (gName 7) tYes (tF (sp_blank_row c) E0 (tCons (tVar 1) tNil)) [7])) "rows")
  (tSeq (sFld c.K (tVar 0) (tVar 1) "wide")
  (tSeq (sFld c.K (tVar 0) (tVar 2) "high")
  (tSeq (sFld c.K (tVar 0) (tC (.int 0)) "top")
  (tSeq (sFld c.K (tVar 0) (tOp uSub (tVar 2) (tC (.int 1))) "bottom")
  (tSeq (sFld c.K (tOp (uIx c.K) (tFld c.K (tVar 0) "rows") (tOp uSub (tVar 2) (tC (.int 1)))) (tC (.bl false)) "goes_on")
  (tSeq (sFld c.K (tVar 0) (tTup (tCons (tCB uMin (tCons (tOp (uIx c.K) (tFld c.K (tVar 0) "put_by") (tC (.int 0))) (tCons (tOp uSub (tVar 2) (tC (.int 1))) tNil))) (tCons (tCB uMin (tCons (tOp (uIx c.K) (tFld c.K (tVar 0) "put_by") (tC (.int 1))) (tCons (tOp uSub (tVar 1) (tC (.int 1))) tNil))) (tCons (tOp (uIx c.K) (tFld c.K (tVar 0) "put_by") (tC (.int 2))) tNil)))) "put_by")
  (tSeq (tDrop (tO c.cScreen "stand" (sp_Screen_stand c) E0 (tVar 0) (tCons (tOp uSub (tOp (uIx c.K) (tVar 4) (tC (.int 0))) (tVar 5)) (tCons (tOp (uIx c.K) (tVar 4) (tC (.int 1))) tNil))))
  (sFld c.K (tVar 0) (tOp (uIx c.K) (tVar 4) (tC (.int 2))) "is_full")))))))))))))))
abbrev N_resize : List Str := ["screen", "wide", "high", "rows", "cursor", "first", "shown", "at"]

theorem layTo_wide {ls : List Ln} {w : Nat} : ∀ i, i ≤ ls.length → ∀ p ∈ (layTo ls w i).1, p.cells.length = w
  | 0, _, p, hp => (nomatch hp)
  | i + 1, hi, p, hp => by
    rw [layTo_succ (by omega)] at hp
    have hp' : p ∈ (layTo ls w i).1 ++ layRows (ls.getD i noLn) w := hp
    rcases List.mem_append.mp hp' with h | h
    · exact layTo_wide i (by omega) p h
    · obtain ⟨j, _, rfl⟩ := List.mem_map.mp h
      exact cutRow_len
namespace Scr
variable {S : Scr}
theorem laid_wide (w : Nat) : ∀ p ∈ (S.laidAll w).1, p.cells.length = w := layTo_wide _ (Nat.le_refl _)
theorem rszRows_len (w h : Nat) : (S.rszRows w h).length = h := by
  unfold rszRows
  rw [List.length_append, List.length_replicate]
  have : (S.rszShown w h).length ≤ h := by unfold rszShown; rw [List.length_take]; omega
  omega
theorem rszRows_wide (w h : Nat) : ∀ p ∈ S.rszRows w h, p.cells.length = w := fun p hp => by
  rcases List.mem_append.mp hp with hp | hp
  · exact laid_wide w p (List.mem_of_mem_drop (List.mem_of_mem_take hp))
  · rw [(List.mem_replicate.mp hp).2]; exact List.length_replicate
theorem rszPast_len (w h : Nat) : (S.rszPast w h).length ≤ S.most := by
  unfold rszPast
  rw [List.length_drop, List.length_take]; omega
theorem rsz0_wf (wf : S.Wf) {w h : Nat} (hw : 2 ≤ w ∧ w ≤ 60) (hh : 2 ≤ h ∧ h ≤ 40) : (S.rsz0 w h).Wf := by
  unfold rsz0
  refine setGoes_wf (S := ({ S with wide := w, high := h, past := S.rszPast w h, rows := S.rszRows w h, row := 0, column := 0, top := 0, bottom := h - 1, putBy := (min S.putBy.1 (h - 1), min S.putBy.2.1 (w - 1), S.putBy.2.2) } : Scr)) ⟨hw.1, hw.2, hh.1, hh.2, wf.m, rszRows_len w h, rszRows_wide w h, rszPast_len w h, fun p hp => laid_wide w p (List.mem_of_mem_take (List.mem_of_mem_drop hp)), by show 0 < h; omega, by show 0 < w; omega, Nat.zero_le _, by show h - 1 < h; omega, wf.rd⟩ _ _
theorem full_wf (wf : S.Wf) (b : Bool) : ({ S with full := b } : Scr).Wf := ⟨wf.w1, wf.w2, wf.h1, wf.h2, wf.m, wf.rl, wf.rw, wf.pl, wf.pw, wf.row, wf.column, wf.tb, wf.bh, wf.rd⟩
theorem resized_wf (wf : S.Wf) {w h : Nat} (hw : 2 ≤ w ∧ w ≤ 60) (hh : 2 ≤ h ∧ h ≤ 40) : (S.resized w h).Wf := full_wf (stand_wf (rsz0_wf wf hw hh) _ _) _
/-- there is a place of the cursor -/
theorem laid_cur (wf : S.Wf) (w : Nat) : ∃ o, (S.laidAll w).2 = some o := by
  have h1 : S.here < S.all.length := by
    unfold here all
    rw [List.length_append, wf.rl]
    have := wf.row; omega
  have h2 : S.here < S.lastRow := here_last S _ h1
  obtain ⟨l, hl, hp⟩ := place_at _ h2
  have key : ∀ i, i ≤ S.lines.length → (∃ l ∈ S.lines.take i, l.place ≠ none) → ∃ o, (layTo S.lines w i).2 = some o := by
    intro i
    induction i with
    | zero => rintro _ ⟨l, hl, _⟩; cases hl
    | succ i ih =>
      rintro hi ⟨l, hl, hp⟩
      rw [layTo_succ (by omega)]
      show ∃ o, (match laySpot (S.lines.getD i noLn) w with | some (x, y, f) => some ((layTo S.lines w i).1.length + x, y, f) | none => (layTo S.lines w i).2) = some o
      cases hs : laySpot (S.lines.getD i noLn) w with
      | some o => obtain ⟨x, y, f⟩ := o; exact ⟨_, rfl⟩
      | none =>
        refine ih (by omega) ⟨l, ?_, hp⟩
        have e : S.lines.take (i + 1) = S.lines.take i ++ [S.lines.getD i noLn] := by
          rw [List.take_succ, List.getElem?_eq_getElem (by omega), List.getD_eq_getElem?_getD, List.getElem?_eq_getElem (by omega)]; rfl
        rw [e] at hl
        rcases List.mem_append.mp hl with hl | hl
        · exact hl
        · rw [List.mem_singleton.mp hl] at hp
          unfold laySpot at hs
          cases hq : (S.lines.getD i noLn).place with
          | none => exact absurd hq hp
          | some p => rw [hq] at hs; cases hs
  exact key _ (Nat.le_refl _) ⟨l, by rw [List.take_length]; exact hl, hp⟩
end Scr
theorem ownR_both {r : RowC} : ∀ {l : List RowC}, r ∈ l → (r.a, rowO c r.dx r.cl r.row.goes) ∈ ownR c l ∧ (r.cl, HO.lst r.vals) ∈ ownR c l
  | [], h => (nomatch h)
  | x :: l, h => by
    rcases List.mem_cons.mp h with rfl | h
    · exact ⟨List.mem_cons_self, List.mem_cons_of_mem _ List.mem_cons_self⟩
    · obtain ⟨a, b⟩ := ownR_both h
      exact ⟨List.mem_cons_of_mem _ (List.mem_cons_of_mem _ a), List.mem_cons_of_mem _ (List.mem_cons_of_mem _ b)⟩
theorem rd_resize (R : FScreen c) (RR : FRow c) : RD N_resize (t_resize c) (sp_resize c) := by
  have cl := R.cl
  have n4 := R.n_most
  have n5 := R.n_rows
  have n12 := R.n_put_by
  rintro vs H Q E ⟨s, C, S, x, y, F, L, rfl, cx, cy, A, ok, W, kk, kb⟩
  have wf := A.wf
  unfold t_resize
  walk_at "r"
  refine ⟨_, _, _, rfl, cx.gr W.gr, ?_⟩
  walk_at "r"
  refine w2 (fun c1 => ?_) (fun c1 => ?_)
  case refine_2 =>
    walk_at "r"
    exact ⟨false, rfl, fun z => (nomatch z), fun _ => kb (by rw [c1]; rfl)⟩
  walk_at "r"
  refine ⟨_, _, _, rfl, cy.gr W.gr, ?_⟩
  walk_at "r"
  refine ⟨cntOk y 2 40, rfl, fun c2 => ?_, fun c2 => kb (by rw [c1, c2]; rfl)⟩
  obtain ⟨w, rfl, w1, w2'⟩ := cntOk_get (lo := 2) c1
  obtain ⟨h, rfl, h1, h2⟩ := cntOk_get (lo := 2) c2
  have hw : 2 ≤ w ∧ w ≤ 60 := ⟨w1, by omega⟩
  have hh : 2 ≤ h ∧ h ≤ 40 := ⟨h1, by omega⟩
  have kk := kk w h rfl rfl hw hh
  -- the rows are set down
  have W0 : Hold F (ownR c C.rows ++ ((s, scrO c C S) :: (C.r, rdO c C.rdx S.rd) :: L)) H := W.perm (List.perm_append_comm_assoc [_, _] (ownR c C.rows) L)
  obtain ⟨F1, e1, W1, m1⟩ := Hold.freezeL _ W0
  have A1 := A.gr (Gr.of e1)
  have pin1 : ∀ r ∈ C.rows, Pin c F1 r := fun r hr => ⟨m1 _ (ownR_both hr).1, m1 _ (ownR_both hr).2, A1.vals r hr⟩
  walk_at "r"
  refine ⟨s, C, S, w, F1, _, rfl, A1, pin1, ok, hw.1, hw.2, W1, fun t D sv rs F2 H2 e2 h2 hD hrs hcr hsp W2 => ?_⟩
  obtain ⟨⟨ca, cb, cf⟩, hcur⟩ := Scr.laid_cur wf w
  have ecur : S.rszCur w = (ca, cb, cf) := by unfold Scr.rszCur; rw [hcur]; rfl
  rw [hcur] at hsp
  obtain ⟨q, rfl, hq⟩ := hsp
  have hrl : rs.length = (S.laidAll w).1.length := by rw [← hrs, List.length_map]
  have hrl2 : rs.length ≤ 15000 := by
    rw [hrl]
    have lok := Scr.lines_ok wf ok
    have z := layTo_len (ls := S.lines) (w := w) (by omega) S.lines.length (Nat.le_refl _)
    rw [List.take_length] at z
    have z1 := lok.len
    have z2 := lok.sum
    show (layTo S.lines w S.lines.length).1.length ≤ 15000
    omega
  have ef : S.rszFirst w h = min (rs.length - h) ca := by unfold Scr.rszFirst; rw [ecur, hrl]
  generalize hf : S.rszFirst w h = f at ef
  have esh : S.rszShown w h = ((rs.drop f).take h).map (·.row) := by unfold Scr.rszShown; rw [hf, ← hrs, List.map_take, List.map_drop]
  have epa : S.rszPast w h = ((rs.take f).drop (f - S.most)).map (·.row) := by unfold Scr.rszPast; rw [hf, ← hrs, List.map_drop, List.map_take]
  -- rows ahead and behind are set down
  have eP : List.Perm (ownR c rs ++ ((s, scrO c C S) :: (C.r, rdO c C.rdx S.rd) :: L)) ((ownR c (rs.take f) ++ ownR c ((rs.drop f).drop h)) ++ ((s, scrO c C S) :: (C.r, rdO c C.rdx S.rd) :: (ownR c ((rs.drop f).take h) ++ L))) := by
    have e : ownR c rs = ownR c (rs.take f) ++ (ownR c ((rs.drop f).take h) ++ ownR c ((rs.drop f).drop h)) := by
      rw [← ownR_app, List.take_append_drop, ← ownR_app, List.take_append_drop]
    rw [e, List.append_assoc, List.append_assoc, List.append_assoc]
    refine List.Perm.append_left _ ?_
    refine (List.perm_append_comm_assoc _ _ _).trans (List.Perm.append_left _ ?_)
    exact List.perm_append_comm_assoc (ownR c ((rs.drop f).take h)) [_, _] L
  obtain ⟨F3, e3, W3, m3⟩ := Hold.freezeL _ (W2.perm eP)
  have pin3 : ∀ r ∈ rs.take f, Pin c F3 r := fun r hr => ⟨m3 _ (List.mem_append_left _ (ownR_both hr).1), m3 _ (List.mem_append_left _ (ownR_both hr).2), (Gr.of e3).dpAll (hcr r (List.mem_of_mem_take hr))⟩
  refine x_gtup (st_of (W3.old _ _ (e3 _ _ h2))) rfl ?_
  walk_at "r"
  refine l_lenL (sq_of (W3.old _ _ (e3 _ _ hD))) ?_
  unfold rowRefs
  rw [List.length_map]
  walk_at "r"
  have q3 := (Gr.of e3).sqT hq
  refine l_ixT (W3.gr.sqT q3) (by rfl) ?_
  walk_at "r"
  have emin : min (max 0 ((rs.length : Int) - (h : Int))) (ca : Int) = ((f : Nat) : Int) := by rw [ef]; omega
  rw [emin, show ((f : Nat) : Int) + ((h : Nat) : Int) = ((f + h : Nat) : Int) by omega]
  refine n_rowsMid W3 (e3 _ _ hD) fun a5 F5 H5 e5 h5 W5 => ?_
  rw [Nat.add_sub_cancel_left] at h5
  walk_at "r"
  refine n_rowsTo W5 (e5 _ _ (e3 _ _ hD)) fun a6 F6 H6 e6 h6 W6 => ?_
  walk_at "r"
  rw [show max 0 (((f : Nat) : Int) - ((S.most : Nat) : Int)) = ((f - S.most : Nat) : Int) by omega]
  refine n_rowsFrom W6 h6 fun a7 F7 H7 e7 h7 W7 => ?_
  walk_at "r"
  refine x_put0 W7 cl R.n_past fsScreen_len fsScreen_p4 fun H8 W8 => ?_
  walk_at "r"
  have hshl : ((rs.drop f).take h).length ≤ h := by rw [List.length_take]; omega
  refine l_lenL (sq_of (W8.old _ _ ((e6.trans e7) _ _ h5))) ?_
  unfold rowRefs
  rw [List.length_map]
  walk_at "r"
  have hsr : ((h : Nat) : Int) - (((rs.drop f).take h).length : Nat) = ((h - ((rs.drop f).take h).length : Nat) : Int) := by omega
  rw [hsr]
  refine x_irng1' (by omega) (by omega) ?_
  rw [Int.toNat_natCast]
  refine x_freshV (w := w) (F := F7) ItOk.rng W8 hw.2 (by omega) (by decide) rfl fun D9 fr F9 H9 e9 hfl hfr hD9 W9 => ?_
  walk_at "r"
  refine n_rowsAdd W9 ((e6.trans (e7.trans e9)) _ _ h5) hD9 (by omega) fun D10 F10 H10 e10 h10 W10 => ?_
  walk_at "r"
  have W11 := W10.perm (show List.Perm _ ((s, HO.ins c.cScreen C.dx (fsScreen (.ref C.r) (.int (S.wide : Nat)) (.int (S.high : Nat)) (.int (S.most : Nat)) (.ref a7) (.ref C.pr) (.int (S.row : Nat)) (.int (S.column : Nat)) (.bl S.full) C.penv (.int (S.top : Nat)) (.int (S.bottom : Nat)) C.pbv (lastV S.last))) :: (C.r, rdO c C.rdx S.rd) :: (ownR c ((rs.drop f).take h ++ fr) ++ L)) by
    rw [ownR_app, List.append_assoc]
    refine (List.perm_append_comm_assoc (ownR c fr) [_, _] _).trans ?_
    exact ((List.perm_append_comm_assoc (ownR c fr) (ownR c ((rs.drop f).take h)) L).cons _).cons _)
  have hlst : ((rs.drop f).take h ++ fr).length = h := by rw [List.length_append, hfl]; omega
  have hlr : ((rs.drop f).take h ++ fr).map (·.row) = S.rszRows w h := by
    unfold Scr.rszRows
    rw [List.map_append, esh]
    congr 1
    rw [List.length_map, List.eq_replicate_iff, List.length_map]
    refine ⟨hfl, fun p hp => ?_⟩
    obtain ⟨r, hr, rfl⟩ := List.mem_map.mp hp
    exact (hfr r hr).1
  have s310 : Same F3 F10 := e5.trans (e6.trans (e7.trans (e9.trans e10)))
  have hlc : ∀ r ∈ (rs.drop f).take h ++ fr, cellsAt c F10 r := fun r hr => by
    rcases List.mem_append.mp hr with hr | hr
    · exact (Gr.of (e3.trans s310)).dpAll (hcr r (List.mem_of_mem_drop (List.mem_of_mem_take hr)))
    · exact (Gr.of e10).dpAll (hfr r hr).2
  generalize (rs.drop f).take h ++ fr = lst at h10 W11 hlst hlr hlc
  clear W10 W9 W8 W7 W6 W5 W3 W2
  refine x_put0 W11 cl R.n_rows fsScreen_len fsScreen_p5 fun H11 W12 => ?_
  walk_at "r"
  refine x_put0 W12 cl R.n_wide fsScreen_len fsScreen_p1 fun H12 W13 => ?_
  walk_at "r"
  refine x_put0 W13 cl R.n_high fsScreen_len fsScreen_p2 fun H13 W14 => ?_
  walk_at "r"
  refine x_put0 W14 cl R.n_top fsScreen_len fsScreen_p10 fun H14 W15 => ?_
  walk_at "r"
  have eh1 : ((h : Nat) : Int) - 1 = ((h - 1 : Nat) : Int) := by omega
  have ew1 : ((w : Nat) : Int) - 1 = ((w - 1 : Nat) : Int) := by omega
  rw [eh1]
  refine x_put0 W15 cl R.n_bottom fsScreen_len fsScreen_p11 fun H15 W16 => ?_
  clear W11 W12 W13 W14 W15
  walk_at "r"
  obtain ⟨r, hr⟩ : ∃ r, lst[h - 1]? = some r := ⟨lst[h - 1]'(by omega), List.getElem?_eq_getElem (by omega)⟩
  have er : (rowRefs lst).getD (h - 1) .non = .ref r.a := by
    unfold rowRefs
    rw [List.getD_eq_getElem?_getD, List.getElem?_map, hr]; rfl
  have hrm : r ∈ lst := List.mem_of_getElem? hr
  rw [eh1]
  refine g_ixL (sq_of (W16.old _ _ h10)) (by unfold rowRefs; rw [List.length_map]; omega) ?_
  rw [er]
  refine x_put0 (Hold.row2 (C := { C with rows := lst }) W16 hr) RR.cl RR.n_goes_on fsRow_len fsRow_p1 fun H16 W17 => ?_
  have W18 := Hold.row2Back (C := { C with rows := lst }) (r' := { r with row := { r.row with goes := false } }) W17 (by show h - 1 < lst.length; omega)
  clear W16 W17
  obtain ⟨qb, pv, epb, hqb, hpv⟩ := A.pb
  rw [epb] at W18
  have s010 : Same F F10 := e1.trans (e2.trans (e3.trans s310))
  have qb10 := (Gr.of s010).sqT hqb
  walk_at "r"
  refine l_ixT (W18.gr.sqT qb10) (by rfl) ?_
  walk_at "r"
  rw [eh1]
  refine l_ixT (W18.gr.sqT qb10) (by rfl) ?_
  walk_at "r"
  rw [ew1]
  refine l_ixT (W18.gr.sqT qb10) (by rfl) ?_
  walk_at "r"
  rw [show min ((S.putBy.1 : Nat) : Int) ((h - 1 : Nat) : Int) = ((min S.putBy.1 (h - 1) : Nat) : Int) by omega, show min ((S.putBy.2.1 : Nat) : Int) ((w - 1 : Nat) : Int) = ((min S.putBy.2.1 (w - 1) : Nat) : Int) by omega]
  refine n_tupF W18 (sz rfl) fun q2 F11 H17 e11 h11 W19 => ?_
  walk_at "r"
  refine x_put0 W19 cl R.n_put_by fsScreen_len fsScreen_p12 fun H18 W20 => ?_
  clear W19
  have s011 : Same F F11 := s010.trans e11
  have s311 : Same F3 F11 := s310.trans e11
  have hrr : r.row = (S.rszRows w h).getD (h - 1) noRow := by
    rw [← hlr, List.getD_eq_getElem?_getD, List.getElem?_map, hr]; rfl
  have A9 : ScrAt c F11 { C with pr := D10, pp := a7, pbv := .ref q2, past := (rs.take f).drop (f - S.most), rows := lst.set (h - 1) { r with row := { r.row with goes := false } } } (S.rsz0 w h) := by
    refine ⟨Scr.rsz0_wf wf hw hh, ?_, ?_, ?_, ?_, ?_, ?_, (Gr.of s011).dp A.pen, ⟨q2, pv, rfl, st_of h11, (Gr.of s011).dp hpv⟩⟩
    · show (lst.set (h - 1) { r with row := { r.row with goes := false } }).map (·.row) = (S.rszRows w h).set (h - 1) { (S.rszRows w h).getD (h - 1) noRow with goes := false }
      rw [List.map_set, hlr, ← hrr]
    · exact epa.symm
    · intro r' hr'
      rcases List.mem_or_eq_of_mem_set hr' with h' | rfl
      · exact (Gr.of e11).dpAll (hlc r' h')
      · exact (Gr.of e11).dpAll (hlc r hrm)
    · show F11 D10 = some (.lst (rowRefs (lst.set (h - 1) { r with row := { r.row with goes := false } })))
      have e : rowRefs (lst.set (h - 1) { r with row := { r.row with goes := false } }) = rowRefs lst := by
        unfold rowRefs
        rw [List.map_set]
        refine List.ext_getElem? fun j => ?_
        by_cases ej : h - 1 = j
        · subst ej
          rw [List.getElem?_set_self (by rw [List.length_map]; omega), List.getElem?_map, hr]; rfl
        · rw [List.getElem?_set_ne ej]
      rw [e]
      exact e11 _ _ h10
    · exact (e9.trans (e10.trans e11)) _ _ h7
    · intro r' hr'
      exact (pin3 r' (List.mem_of_mem_drop hr')).gr (Gr.of s311)
  walk_at "r"
  have q11 := (Gr.of s311).sqT q3
  refine l_ixT (W20.gr.sqT q11) (by rfl) ?_
  walk_at "r"
  refine l_ixT (W20.gr.sqT q11) (by rfl) ?_
  walk_at "r"
  refine ⟨s, _, _, _, _, F11, L, rfl, A9, ⟨S.row, S.column, W20⟩, fun C2 F12 H19 e12 A12 W21 => ?_⟩
  walk_at "r"
  refine l_ixT (W21.gr.sqT ((Gr.of e12).sqT q11)) (by rfl) ?_
  walk_at "r"
  refine x_put0 W21 cl R.n_is_full fsScreen_len fsScreen_p8 fun H20 W22 => ?_
  have e : S.resized w h = { (S.rsz0 w h).stand ((ca : Int) - (f : Nat)) ((cb : Nat) : Int) with full := cf } := by unfold Scr.resized; rw [ecur, hf]
  have z := kk C2 F12 H20 (s011.trans e12)
  rw [e] at z
  exact z ⟨Scr.full_wf A12.wf cf, A12.rows, A12.past, A12.vals, A12.pr, A12.pp, A12.pin, A12.pen, A12.pb⟩ W22
end
end Ss
/-! ## other sizes 6: a screen stays one -/
namespace Ss
open PySem PySem.Spec PyProof.Rows L2
theorem laySpot_full {ln : Ln} {w : Nat} {a b : Nat} (h : laySpot ln w = some (a, b, true)) : b = w - 1 := by
  unfold laySpot at h
  cases hp : ln.place with
  | none => rw [hp] at h; cases h
  | some p =>
    rw [hp] at h
    have h' : some (if p = (layRows ln w).length * w then ((layRows ln w).length - 1, w - 1, true) else (p / w, p % w, false)) = some (a, b, true) := h
    split at h'
    · injection h' with h'; injection h' with _ h'; injection h' with h' _; exact h'.symm
    · injection h' with h'; injection h' with _ h'; injection h' with _ h'; cases h'
theorem layTo_full {ls : List Ln} {w : Nat} : ∀ i, i ≤ ls.length → ∀ a b, (layTo ls w i).2 = some (a, b, true) → b = w - 1
  | 0, _, _, _, h => (nomatch h)
  | i + 1, hi, a, b, h => by
    rw [layTo_succ (by omega)] at h
    have h' : (match laySpot (ls.getD i noLn) w with | some (x, y, f) => some ((layTo ls w i).1.length + x, y, f) | none => (layTo ls w i).2) = some (a, b, true) := h
    cases hs : laySpot (ls.getD i noLn) w with
    | none => rw [hs] at h'; exact layTo_full i (by omega) a b h'
    | some o =>
      obtain ⟨x, y, f⟩ := o
      rw [hs] at h'
      injection h' with h'; injection h' with _ h'; injection h' with h1 h2
      subst h1 h2
      exact laySpot_full hs
theorem layRows_ok {ln : Ln} {w : Nat} (h : ∀ x ∈ ln.cells, x.Ok) : ∀ p ∈ layRows ln w, p.Ok := fun p hp => by
  obtain ⟨j, _, rfl⟩ := List.mem_map.mp hp
  exact cutRow_ok (trimL_ok h)
theorem layTo_ok {ls : List Ln} {w : Nat} (h : ∀ l ∈ ls, ∀ x ∈ l.cells, x.Ok) : ∀ i, i ≤ ls.length → ∀ p ∈ (layTo ls w i).1, p.Ok
  | 0, _, p, hp => (nomatch hp)
  | i + 1, hi, p, hp => by
    rw [layTo_succ (by omega)] at hp
    have hp' : p ∈ (layTo ls w i).1 ++ layRows (ls.getD i noLn) w := hp
    rcases List.mem_append.mp hp' with hp | hp
    · exact layTo_ok h i (by omega) p hp
    · exact layRows_ok (h _ (getD_mem (by omega))) p hp
namespace Scr
variable {S : Scr}
theorem resized_ok (wf : S.Wf) (ok : S.Ok) {w h : Nat} (hw : 2 ≤ w ∧ w ≤ 60) (hh : 2 ≤ h ∧ h ≤ 40) : (S.resized w h).Ok := by
  have lo : ∀ p ∈ (S.laidAll w).1, p.Ok := layTo_ok (lines_ok wf ok).ok _ (Nat.le_refl _)
  have ro : ∀ p ∈ S.rszRows w h, p.Ok := fun p hp => by
    rcases List.mem_append.mp hp with hp | hp
    · exact lo p (List.mem_of_mem_drop (List.mem_of_mem_take hp))
    · exact rep_ok hp
  have gok : ((S.rszRows w h).getD (h - 1) noRow).Ok := by
    rw [List.getD_eq_getElem?_getD]
    by_cases hi : h - 1 < (S.rszRows w h).length
    · rw [List.getElem?_eq_getElem hi]; exact ro _ (List.getElem_mem hi)
    · rw [List.getElem?_eq_none (by omega)]; exact fun x hx => (nomatch hx)
  refine ⟨fun p hp => ?_, fun p hp => lo p (List.mem_of_mem_take (List.mem_of_mem_drop hp)), ok.pen, ok.pb, ok.last, by show 0 < h - 1; omega, fun z => ?_, hh.1⟩
  · have hp' : p ∈ (S.rszRows w h).set (h - 1) { (S.rszRows w h).getD (h - 1) noRow with goes := false } := hp
    rcases List.mem_or_eq_of_mem_set hp' with hp' | rfl
    · exact ro p hp'
    · exact gok
  · have hf : (S.rszCur w).2.2 = true := z
    obtain ⟨⟨a, b, f⟩, ho⟩ := laid_cur wf w
    have ec : S.rszCur w = (a, b, f) := by unfold rszCur; rw [ho]; rfl
    rw [ec] at hf
    have hf' : f = true := hf
    subst hf'
    have hb := layTo_full _ (Nat.le_refl _) a b ho
    show (max 0 (min ((w : Int) - 1) ((S.rszCur w).2.1 : Nat))).toNat = w - 1
    rw [ec]
    show (max 0 (min ((w : Int) - 1) ((b : Nat) : Int))).toNat = w - 1
    omega
end Scr
end Ss
/-! ## lines typed 1: a line's rows -/
namespace Ss
open PySem PySem.Spec PyProof.Rows L2
def tc (l : List Nat) : List Cell := l.map fun n => ⟨n, plainPen⟩
theorem tc_len (l : List Nat) : (tc l).length = l.length := List.length_map ..
def lineRows (l : List Nat) (w : Nat) : List PRow := cutRows (tc l) w (nRows l.length w)
def allRows (ls : List (List Nat)) (w : Nat) : List PRow := (ls.map fun l => lineRows l w).flatten
theorem lineRows_len (l : List Nat) (w : Nat) : (lineRows l w).length = nRows l.length w := by unfold lineRows cutRows; rw [List.length_map, List.length_range]
theorem allRows_snoc (ls : List (List Nat)) (l : List Nat) (w : Nat) : allRows (ls ++ [l]) w = allRows ls w ++ lineRows l w := by
  unfold allRows; rw [List.map_append, List.flatten_append]; simp
theorem nRows_pos (k w : Nat) : 0 < nRows k w := Nat.succ_pos _
/-- the rows ahead of the last one, and it -/
theorem lineRows_last (l : List Nat) (w : Nat) : lineRows l w = cutRows (tc l) w (nRows l.length w - 1) ++ [cutRow (tc l) w (nRows l.length w - 1)] := by
  have e : nRows l.length w = (nRows l.length w - 1) + 1 := by have := nRows_pos l.length w; omega
  unfold lineRows
  rw [e]
  show cutRows (tc l) w ((nRows l.length w - 1) + 1) = cutRows (tc l) w (nRows l.length w - 1 + 1 - 1) ++ [cutRow (tc l) w (nRows l.length w - 1 + 1 - 1)]
  rw [Nat.add_sub_cancel]
  unfold cutRows
  rw [List.range_succ, List.map_append]; rfl
/-- a full last row -/
def isFull (m w : Nat) : Prop := 0 < m ∧ m % w = 0
theorem nRows_full {m w : Nat} (hw : 1 ≤ w) (h : isFull m w) : nRows m w = m / w ∧ nRows (m + 1) w = m / w + 1 ∧ 1 ≤ m / w ∧ m / w * w = m := by
  obtain ⟨h0, h1⟩ := h
  have hd : m / w * w = m := by have := Nat.div_add_mod m w; rw [h1, Nat.mul_comm] at this; omega
  have hq : 1 ≤ m / w := by
    rcases Nat.eq_zero_or_pos (m / w) with z | z
    · rw [z] at hd; omega
    · exact z
  refine ⟨?_, ?_, hq, hd⟩
  · unfold nRows
    rw [Nat.max_eq_right (by omega)]
    have e : (m - 1) / w = m / w - 1 := by
      refine Nat.div_eq_of_lt_le ?_ ?_
      · rw [Nat.sub_mul]; omega
      · rw [Nat.sub_add_cancel hq]; omega
    omega
  · unfold nRows
    rw [Nat.max_eq_right (by omega), Nat.add_sub_cancel]
theorem nRows_part {m w : Nat} (hw : 1 ≤ w) (h : ¬ isFull m w) : nRows m w = m / w + 1 ∧ nRows (m + 1) w = m / w + 1 ∧ (m = 0 ∨ 0 < m % w) := by
  have hm : m = 0 ∨ 0 < m % w := by
    rcases Nat.eq_zero_or_pos m with z | z
    · exact .inl z
    · rcases Nat.eq_zero_or_pos (m % w) with y | y
      · exact absurd ⟨z, y⟩ h
      · exact .inr y
  refine ⟨?_, ?_, hm⟩
  · unfold nRows
    rcases hm with rfl | hm
    · simp
    · have h0 : 0 < m := by
        rcases Nat.eq_zero_or_pos m with z | z
        · rw [z, Nat.zero_mod] at hm; exact absurd hm (Nat.lt_irrefl 0)
        · exact z
      rw [Nat.max_eq_right (by omega)]
      have e : (m - 1) / w = m / w := by
        have hd := Nat.div_add_mod m w
        rw [Nat.mul_comm] at hd
        refine Nat.div_eq_of_lt_le ?_ ?_
        · omega
        · rw [Nat.succ_mul]; have := Nat.mod_lt m (show 0 < w by omega); omega
      rw [e]
  · unfold nRows
    rw [Nat.max_eq_right (by omega), Nat.add_sub_cancel]
/-- rows ahead stay as they are when a sign comes -/
theorem cutRow_ahead {l : List Nat} {n w j : Nat} (h : j * w + w < l.length) : cutRow (tc (l ++ [n])) w j = cutRow (tc l) w j := by
  have e : tc (l ++ [n]) = tc l ++ [(⟨n, plainPen⟩ : Cell)] := by unfold tc; rw [List.map_append]; rfl
  have h1 : ((tc l ++ [(⟨n, plainPen⟩ : Cell)]).drop (j * w)).take w = ((tc l).drop (j * w)).take w := by
    rw [List.drop_append_of_le_length (by rw [tc_len]; omega), List.take_append_of_le_length (by rw [List.length_drop, tc_len]; omega)]
  unfold cutRow
  rw [e, h1, List.length_append, List.length_singleton, tc_len, decide_eq_true (show j * w + w < l.length + 1 by omega), decide_eq_true h]
theorem cutRows_succ (l : List Cell) (w n : Nat) : cutRows l w (n + 1) = cutRows l w n ++ [cutRow l w n] := by
  unfold cutRows; rw [List.range_succ, List.map_append]; rfl
theorem cutRows_ahead {l : List Nat} {n w k : Nat} (h : ∀ j, j < k → j * w + w < l.length) : cutRows (tc (l ++ [n])) w k = cutRows (tc l) w k := by
  unfold cutRows
  exact List.map_congr_left fun j hj => cutRow_ahead (h j (List.mem_range.mp hj))
theorem lineRows_nil (w : Nat) : lineRows [] w = [blankRow w] := by
  unfold lineRows cutRows nRows cutRow blankRow
  simp [tc]
theorem tc_snoc (l : List Nat) (n : Nat) : tc (l ++ [n]) = tc l ++ [(⟨n, plainPen⟩ : Cell)] := by unfold tc; rw [List.map_append]; rfl
theorem line_part {l : List Nat} {w : Nat} (hw : 1 ≤ w) (h : ¬ isFull l.length w) : lineRows l w = cutRows (tc l) w (l.length / w) ++ [cutRow (tc l) w (l.length / w)] := by
  unfold lineRows; rw [(nRows_part hw h).1, cutRows_succ]
theorem line_full {l : List Nat} {w : Nat} (hw : 1 ≤ w) (h : isFull l.length w) : lineRows l w = cutRows (tc l) w (l.length / w - 1) ++ [cutRow (tc l) w (l.length / w - 1)] := by
  obtain ⟨h1, _, h3, _⟩ := nRows_full hw h
  unfold lineRows
  rw [h1, ← cutRows_succ, Nat.sub_add_cancel h3]
theorem set_rep {x : Cell} {a b : List Cell} {k : Nat} (h : a.length = k) (hb : b ≠ []) : (a ++ b).set k x = a ++ x :: b.tail := by
  subst h
  rw [List.set_append_right _ _ (Nat.le_refl _), Nat.sub_self]
  cases b with
  | nil => exact absurd rfl hb
  | cons y b => rfl
theorem line_put_part {l : List Nat} {n w : Nat} (hw : 1 ≤ w) (h : ¬ isFull l.length w) : lineRows (l ++ [n]) w = cutRows (tc l) w (l.length / w) ++ [{ cutRow (tc l) w (l.length / w) with cells := (cutRow (tc l) w (l.length / w)).cells.set (l.length % w) ⟨n, plainPen⟩ }] := by
  obtain ⟨_, h2, hm⟩ := nRows_part hw h
  have hdm := Nat.div_add_mod l.length w
  have hlt := Nat.mod_lt l.length (show 0 < w by omega)
  rw [Nat.mul_comm] at hdm
  unfold lineRows
  rw [List.length_append, List.length_singleton, h2, cutRows_succ, cutRows_ahead fun j hj => ?_]
  · congr 1
    generalize hq : l.length / w = q at hdm
    generalize hr : l.length % w = r at hdm hlt
    have e1 : (tc (l ++ [n])).drop (q * w) = (tc l).drop (q * w) ++ [(⟨n, plainPen⟩ : Cell)] := by
      rw [tc_snoc, List.drop_append_of_le_length (by rw [tc_len]; omega)]
    have hd : ((tc l).drop (q * w)).length = r := by rw [List.length_drop, tc_len]; omega
    have t1 : ((tc l).drop (q * w)).take w = (tc l).drop (q * w) := List.take_of_length_le (by omega)
    have t2 : ((tc l).drop (q * w) ++ [(⟨n, plainPen⟩ : Cell)]).take w = (tc l).drop (q * w) ++ [(⟨n, plainPen⟩ : Cell)] := List.take_of_length_le (by rw [List.length_append, hd, List.length_singleton]; omega)
    have g1 : decide (q * w + w < (tc (l ++ [n])).length) = false := decide_eq_false (by rw [tc_len, List.length_append, List.length_singleton]; omega)
    have g2 : decide (q * w + w < (tc l).length) = false := decide_eq_false (by rw [tc_len]; omega)
    unfold cutRow
    rw [e1, t1, t2, g1, g2, List.length_append, hd, List.length_singleton]
    have e3 : ((tc l).drop (q * w) ++ List.replicate (w - r) blankCell).set r ⟨n, plainPen⟩ = (tc l).drop (q * w) ++ [(⟨n, plainPen⟩ : Cell)] ++ List.replicate (w - (r + 1)) blankCell := by
      rw [set_rep hd (by intro z; have := congrArg List.length z; rw [List.length_replicate, List.length_nil] at this; omega), List.tail_replicate, List.append_assoc]
      rw [show w - r - 1 = w - (r + 1) by omega]; rfl
    rw [e3]
  · have hj1 : (j + 1) * w ≤ l.length / w * w := Nat.mul_le_mul_right _ hj
    rw [Nat.succ_mul] at hj1
    rcases hm with hm | hm
    · rw [hm, Nat.zero_div] at hj; omega
    · omega
theorem line_put_full {l : List Nat} {n w : Nat} (hw : 1 ≤ w) (h : isFull l.length w) : lineRows (l ++ [n]) w = cutRows (tc l) w (l.length / w - 1) ++ [{ cutRow (tc l) w (l.length / w - 1) with goes := true }] ++ [{ blankRow w with cells := (blankRow w).cells.set 0 ⟨n, plainPen⟩ }] := by
  obtain ⟨_, h2, h3, h4⟩ := nRows_full hw h
  unfold lineRows
  rw [List.length_append, List.length_singleton, h2, cutRows_succ]
  obtain ⟨q, hq⟩ : ∃ q, l.length / w = q + 1 := ⟨l.length / w - 1, by omega⟩
  rw [hq] at h4 ⊢
  rw [Nat.add_sub_cancel, cutRows_succ, cutRows_ahead fun j hj => ?_]
  · rw [Nat.succ_mul] at h4
    congr 1
    · congr 1
      unfold cutRow
      have e : ((tc (l ++ [n])).drop (q * w)).take w = ((tc l).drop (q * w)).take w := by
        rw [tc_snoc, List.drop_append_of_le_length (by rw [tc_len]; omega), List.take_append_of_le_length (by rw [List.length_drop, tc_len]; omega)]
      rw [e, tc_len (l ++ [n]), List.length_append, List.length_singleton, decide_eq_true (show q * w + w < l.length + 1 by omega)]
    · unfold cutRow
      have e : (tc (l ++ [n])).drop ((q + 1) * w) = [(⟨n, plainPen⟩ : Cell)] := by
        rw [tc_snoc, Nat.succ_mul, h4, List.drop_append_of_le_length (by rw [tc_len]; exact Nat.le_refl _), List.drop_of_length_le (by rw [tc_len]; exact Nat.le_refl _)]; rfl
      have t : [(⟨n, plainPen⟩ : Cell)].take w = [(⟨n, plainPen⟩ : Cell)] := List.take_of_length_le (by show 1 ≤ w; omega)
      rw [e, t, decide_eq_false (by rw [tc_len, List.length_append, List.length_singleton, Nat.succ_mul]; omega)]
      show [(⟨[(⟨n, plainPen⟩ : Cell)] ++ List.replicate (w - 1) blankCell, false⟩ : PRow)] = [⟨(List.replicate w blankCell).set 0 ⟨n, plainPen⟩, false⟩]
      obtain ⟨v, rfl⟩ : ∃ v, w = v + 1 := ⟨w - 1, by omega⟩
      rw [Nat.add_sub_cancel, List.replicate_succ]; rfl
  · rw [Nat.succ_mul] at h4
    have hj1 : (j + 1) * w ≤ q * w := Nat.mul_le_mul_right _ hj
    rw [Nat.succ_mul] at hj1
    omega
end Ss
/-! ## lines typed 2: the screen behind each sign -/
namespace Ss
open PySem PySem.Spec PyProof.Rows L2
/-- the rows up to the cursor's are these, blank ones below -/
structure Lay (S : Scr) (R : List PRow) : Prop where
  wf : S.Wf
  ok : S.Ok
  pen : S.pen = plainPen
  top : S.top = 0
  bot : S.bottom = S.high - 1
  rows : S.past ++ S.rows.take (S.row + 1) = R
  rest : ∀ i, S.row < i → i < S.high → S.rowAt i = blankRow S.wide
namespace Scr
variable {S : Scr} {R R0 : List PRow} {p : PRow}
theorem take_row (w : S.Wf) (i : Nat) (hi : i < S.high) : S.rows.take (i + 1) = S.rows.take i ++ [S.rowAt i] := by
  have hi' : i < S.rows.length := by rw [w.rl]; exact hi
  unfold rowAt
  rw [List.take_succ, List.getElem?_eq_getElem hi', List.getD_eq_getElem?_getD, List.getElem?_eq_getElem hi']; rfl
theorem lay_split (A : Lay S (R0 ++ [p])) : S.past ++ S.rows.take S.row = R0 ∧ S.rowAt S.row = p := by
  have h := A.rows
  rw [take_row A.wf S.row A.wf.row, ← List.append_assoc] at h
  have z := List.append_inj' h rfl
  exact ⟨z.1, by injection z.2⟩
theorem rowAt_setR (w : S.Wf) {i j : Nat} {q : PRow} : (S.setRow i q).rowAt j = if i = j ∧ j < S.high then q else S.rowAt j := by
  show (S.rows.set i q).getD j ⟨[], false⟩ = _
  rw [List.getD_eq_getElem?_getD]
  by_cases e : i = j
  · subst e
    by_cases hi : i < S.high
    · rw [if_pos ⟨rfl, hi⟩, List.getElem?_set_self (by rw [w.rl]; exact hi)]; rfl
    · rw [if_neg fun z => hi z.2, List.getElem?_eq_none (by rw [List.length_set, w.rl]; omega)]
      unfold rowAt
      rw [List.getD_eq_getElem?_getD, List.getElem?_eq_none (by rw [w.rl]; omega)]
  · rw [if_neg fun z => e z.1, List.getElem?_set_ne e]; rfl
/-- another row where the cursor is -/
theorem lay_rows_set (A : Lay S (R0 ++ [p])) (q : PRow) : S.past ++ (S.rows.set S.row q).take (S.row + 1) = R0 ++ [q] := by
  obtain ⟨h1, _⟩ := lay_split A
  have hr : S.row < S.rows.length := by rw [A.wf.rl]; exact A.wf.row
  have e : (S.rows.set S.row q).take (S.row + 1) = S.rows.take S.row ++ [q] := by
    rw [List.take_succ, List.getElem?_set_self hr, List.take_set_of_le (Nat.le_refl _)]; rfl
  rw [e, ← List.append_assoc, h1]
theorem lay_rest_set (A : Lay S R) (q : PRow) : ∀ i, S.row < i → i < S.high → (S.setRow S.row q).rowAt i = blankRow S.wide := fun i h1 h2 => by
  rw [rowAt_setR A.wf, if_neg (by omega)]
  exact A.rest i h1 h2
theorem lay_goes (A : Lay S (R0 ++ [p])) (b : Bool) : Lay (S.setGoes S.row b) (R0 ++ [{ p with goes := b }]) := by
  obtain ⟨_, hp⟩ := lay_split A
  refine ⟨setGoes_wf A.wf _ _, setGoes_ok A.ok _ _, A.pen, A.top, A.bot, ?_, lay_rest_set A _⟩
  rw [← hp]
  exact lay_rows_set A _
theorem stand_row (w : S.Wf) : (S.stand S.row 0).row = S.row := by
  show (max 0 (min ((S.high : Int) - 1) (S.row : Int))).toNat = S.row
  have := w.row; omega
theorem lay_stand (A : Lay S R) : Lay (S.stand S.row 0) R ∧ (S.stand S.row 0).column = 0 ∧ (S.stand S.row 0).full = false := by
  refine ⟨⟨stand_wf A.wf _ _, stand_ok A.ok _ _, A.pen, A.top, A.bot, ?_, ?_⟩, ?_, rfl⟩
  · show S.past ++ S.rows.take ((S.stand S.row 0).row + 1) = R
    rw [stand_row A.wf]; exact A.rows
  · intro i h1 h2
    rw [stand_row A.wf] at h1
    exact A.rest i h1 h2
  · show (max 0 (min ((S.wide : Int) - 1) 0)).toNat = 0
    omega
theorem lay_down (A : Lay S R) (room : S.past.length + 1 ≤ S.most) : Lay S.down (R ++ [blankRow S.wide]) := by
  have wf := A.wf
  have hb := A.bot
  have hh := wf.h1
  by_cases e : S.row = S.bottom
  · have ed : S.down = S.roll S.top 1 := by unfold down; rw [if_pos e]
    have en : min 1 (S.bottom + 1 - 0) = 1 := by omega
    have er : (S.rolled 0 1).rows = S.rows.drop 1 ++ [blankRow S.wide] := by
      show S.rows.take 0 ++ (S.rows.drop (0 + 1)).take (S.bottom + 1 - (0 + 1)) ++ List.replicate 1 (blankRow S.wide) ++ S.rows.drop (S.bottom + 1) = _
      rw [List.take_zero, List.nil_append, List.take_of_length_le (by rw [List.length_drop, wf.rl]; omega), List.drop_of_length_le (i := S.bottom + 1) (by rw [wf.rl]; omega), List.append_nil]; rfl
    have ep : (S.rolled 0 1).past = S.past ++ S.rows.take 1 := by
      show (if 0 = 0 then (S.past ++ S.rows.take 1).drop (S.past.length + 1 - S.most) else S.past) = _
      rw [if_pos rfl, show S.past.length + 1 - S.most = 0 by omega, List.drop_zero]
    have hl : (S.rows.drop 1 ++ [blankRow S.wide]).length = S.high := by rw [List.length_append, List.length_drop, wf.rl, List.length_singleton]; omega
    have ec : (S.roll 0 1).rows = S.rows.drop 1 ++ [blankRow S.wide] := by
      unfold roll
      rw [en]
      unfold cutOff
      rw [if_neg (by omega)]
      show (S.rolled 0 1).rows.set S.bottom { (S.rolled 0 1).rows.getD S.bottom ⟨[], false⟩ with goes := false } = _
      rw [er]
      have eb : (S.rows.drop 1 ++ [blankRow S.wide]).getD S.bottom ⟨[], false⟩ = blankRow S.wide := by
        rw [List.getD_eq_getElem?_getD, List.getElem?_append_right (by rw [List.length_drop, wf.rl]; omega), List.length_drop, wf.rl, show S.bottom - (S.high - 1) = 0 by omega]; rfl
      rw [eb]
      show (S.rows.drop 1 ++ [blankRow S.wide]).set S.bottom (blankRow S.wide) = _
      rw [List.set_append_right _ _ (by rw [List.length_drop, wf.rl]; omega), List.length_drop, wf.rl, show S.bottom - (S.high - 1) = 0 by omega]; rfl
    have epc : (S.roll 0 1).past = S.past ++ S.rows.take 1 := by
      unfold roll
      rw [en]
      unfold cutOff
      rw [if_neg (by omega)]
      exact ep
    have et := A.top
    rw [ed, et]
    have hwd : (S.roll 0 1).wide = S.wide := by unfold roll cutOff; rw [if_neg (by omega)]; rfl
    have hrw : (S.roll 0 1).row = S.row := by unfold roll cutOff; rw [if_neg (by omega)]; rfl
    have hhi : (S.roll 0 1).high = S.high := by unfold roll cutOff; rw [if_neg (by omega)]; rfl
    refine ⟨roll_wf wf (Nat.zero_le _) _, ?_, ?_, ?_, ?_, ?_, ?_⟩
    · have z := down_ok A.ok
      rw [ed, et] at z; exact z
    · have z : (S.roll 0 1).pen = S.pen := by unfold roll cutOff; rw [if_neg (by omega)]; rfl
      rw [z]; exact A.pen
    · have z : (S.roll 0 1).top = S.top := by unfold roll cutOff; rw [if_neg (by omega)]; rfl
      rw [z]; exact et
    · have z : (S.roll 0 1).bottom = S.bottom := by unfold roll cutOff; rw [if_neg (by omega)]; rfl
      rw [z, hhi]; exact hb
    · have t1 : (S.rows.drop 1 ++ [blankRow S.wide]).take (S.row + 1) = S.rows.drop 1 ++ [blankRow S.wide] := List.take_of_length_le (by rw [hl]; omega)
      have t2 : S.rows.take (S.row + 1) = S.rows := List.take_of_length_le (by rw [wf.rl]; omega)
      have t3 : S.rows = S.rows.take 1 ++ S.rows.drop 1 := (List.take_append_drop 1 S.rows).symm
      rw [epc, ec, hrw, t1, ← A.rows, t2]
      conv => rhs; rw [t3]
      simp only [List.append_assoc]
    · intro i h1 h2
      rw [hrw] at h1
      rw [hhi] at h2
      omega
  · have ed : S.down = { S with row := S.row + 1 } := by
      unfold down
      have := wf.row
      rw [if_neg e, if_pos (by omega)]
    have hz := down_wf wf
    have hy := down_ok A.ok
    rw [ed] at hz hy ⊢
    have hr := hz.row
    have hr' : S.row + 1 < S.high := hr
    refine ⟨hz, hy, A.pen, A.top, A.bot, ?_, fun i h1 h2 => A.rest i (by have h1' : S.row + 1 < i := h1; omega) h2⟩
    show S.past ++ S.rows.take (S.row + 1 + 1) = _
    rw [take_row wf (S.row + 1) hr', ← List.append_assoc, A.rows, A.rest (S.row + 1) (by omega) hr']
end Scr
end Ss
/-! ## lines typed 3: a sign, a line end -/
namespace Ss
open PySem PySem.Spec PyProof.Rows L2
instance (m w : Nat) : Decidable (isFull m w) := inferInstanceAs (Decidable (0 < m ∧ m % w = 0))
/-- lines typed on a screen; the last one is not ended -/
structure Typed (S : Scr) (ls : List (List Nat)) (l : List Nat) : Prop where
  lay : Lay S (allRows (ls ++ [l]) S.wide)
  spot : if isFull l.length S.wide then S.full = true ∧ S.column = S.wide - 1 else S.full = false ∧ S.column = l.length % S.wide
  plain : ∀ m ∈ ls ++ [l], ∀ n ∈ m, n ≠ 32
namespace Scr
variable {S : Scr} {R R0 : List PRow} {p : PRow}
theorem down_dims (S : Scr) : S.down.wide = S.wide ∧ S.down.high = S.high ∧ S.down.most = S.most ∧ S.down.rd = S.rd := by
  unfold down
  split
  · unfold roll cutOff
    split <;> exact ⟨rfl, rfl, rfl, rfl⟩
  · split <;> exact ⟨rfl, rfl, rfl, rfl⟩
theorem lay_type1 (A : Lay S (R0 ++ [p])) (hf : S.full = false) {n : Nat} (hn : sgOk n) : Lay (S.type1 n) (R0 ++ [{ p with cells := p.cells.set S.column ⟨n, plainPen⟩ }]) := by
  obtain ⟨_, hp⟩ := lay_split A
  have h1 : S.past ++ (S.rows.set S.row { S.rowAt S.row with cells := (S.rowAt S.row).cells.set S.column ⟨n, S.pen⟩ }).take (S.row + 1) = R0 ++ [{ p with cells := p.cells.set S.column ⟨n, plainPen⟩ }] := by
    rw [A.pen, ← hp]; exact lay_rows_set A _
  have h2 := lay_rest_set A { S.rowAt S.row with cells := (S.rowAt S.row).cells.set S.column ⟨n, S.pen⟩ }
  refine ⟨type1_wf A.wf n, type1_ok A.ok hf hn, ?_, ?_, ?_, ?_, ?_⟩
  · unfold type1 next; split <;> exact A.pen
  · unfold type1 next; split <;> exact A.top
  · unfold type1 next; split <;> exact A.bot
  · unfold type1 next; split <;> exact h1
  · unfold type1 next; split <;> exact h2
theorem next_spot (T : Scr) : (T.column = T.wide - 1 → T.next.full = true ∧ T.next.column = T.column) ∧ (T.column ≠ T.wide - 1 → T.next.full = T.full ∧ T.next.column = T.column + 1) ∧ T.next.wide = T.wide ∧ T.next.most = T.most ∧ T.next.high = T.high ∧ T.next.rd = T.rd := by
  refine ⟨fun h => ?_, fun h => ?_, ?_⟩
  · unfold next
    rw [if_pos h]
    exact ⟨rfl, rfl⟩
  · unfold next
    rw [if_neg h]
    exact ⟨rfl, rfl⟩
  · unfold next
    split <;> exact ⟨rfl, rfl, rfl, rfl⟩
theorem type1_spot (S : Scr) (n : Nat) : (S.column = S.wide - 1 → (S.type1 n).full = true ∧ (S.type1 n).column = S.wide - 1) ∧ (S.column ≠ S.wide - 1 → (S.type1 n).full = S.full ∧ (S.type1 n).column = S.column + 1) ∧ (S.type1 n).wide = S.wide ∧ (S.type1 n).most = S.most ∧ (S.type1 n).high = S.high ∧ (S.type1 n).rd = S.rd := by
  obtain ⟨h1, h2, h3⟩ := next_spot { S.setCells ((S.rowAt S.row).cells.set S.column ⟨n, S.pen⟩) with last := some n }
  exact ⟨fun h => ⟨(h1 h).1, (h1 h).2.trans h⟩, h2, h3⟩
theorem lay_past (A : Lay S R) : S.past.length + S.row + 1 = R.length := by
  rw [← A.rows, List.length_append, List.length_take, A.wf.rl]
  have := A.wf.row; omega
/-- the line end -/
theorem typed_fin {ls : List (List Nat)} {l : List Nat} (A : Typed S ls l) (room : (allRows (ls ++ [l]) S.wide).length ≤ S.most) : Typed (S.down.stand S.down.row 0) (ls ++ [l]) [] ∧ (S.down.stand S.down.row 0).wide = S.wide ∧ (S.down.stand S.down.row 0).most = S.most ∧ (S.down.stand S.down.row 0).high = S.high ∧ (S.down.stand S.down.row 0).rd = S.rd := by
  have hp := lay_past A.lay
  obtain ⟨d1, d2, d3, d4⟩ := down_dims S
  have L1 := lay_down A.lay (by omega)
  obtain ⟨L2, hc, hf⟩ := lay_stand L1
  refine ⟨⟨?_, ?_, ?_⟩, d1, d3, d2, d4⟩
  · show Lay _ (allRows ((ls ++ [l]) ++ [[]]) S.down.wide)
    rw [allRows_snoc, lineRows_nil, d1]
    exact L2
  · rw [if_neg (fun z => absurd z.1 (Nat.lt_irrefl 0))]
    exact ⟨hf, by rw [hc]; exact (Nat.zero_mod _).symm⟩
  · intro m hm n hn
    rcases List.mem_append.mp hm with hm | hm
    · exact A.plain m hm n hn
    · rw [List.mem_singleton.mp hm] at hn; cases hn
/-- a sign -/
theorem typed_put {ls : List (List Nat)} {l : List Nat} {n : Nat} (A : Typed S ls l) (hn : sgOk n) (h32 : n ≠ 32) (room : (allRows (ls ++ [l ++ [n]]) S.wide).length ≤ S.most) : Typed (S.put n) ls (l ++ [n]) ∧ (S.put n).wide = S.wide ∧ (S.put n).most = S.most ∧ (S.put n).high = S.high ∧ (S.put n).rd = S.rd := by
  have wf := A.lay.wf
  have w1 := wf.w1
  have hpl : ∀ m ∈ ls ++ [l ++ [n]], ∀ x ∈ m, x ≠ 32 := fun m hm x hx => by
    rcases List.mem_append.mp hm with hm | hm
    · exact A.plain m (List.mem_append_left _ hm) x hx
    · rw [List.mem_singleton.mp hm] at hx
      rcases List.mem_append.mp hx with hx | hx
      · exact A.plain l (by simp) x hx
      · rw [List.mem_singleton.mp hx]; exact h32
  have hp := lay_past A.lay
  have L0 := A.lay
  rw [allRows_snoc] at L0 hp room
  by_cases h : isFull l.length S.wide
  · -- the row is full: on below
    have hs := A.spot
    rw [if_pos h] at hs
    obtain ⟨hf, _⟩ := hs
    rw [line_full (by omega) h, ← List.append_assoc] at L0
    rw [line_full (by omega) h, List.length_append, List.length_append] at hp
    rw [line_put_full (by omega) h] at room
    simp only [List.length_append, List.length_singleton] at hp room
    have hb := A.lay.bot
    have hr := wf.row
    have cg : (decide (S.row = S.bottom) || decide (S.row < S.high - 1)) = true := by
      rw [Bool.or_eq_true, decide_eq_true_eq, decide_eq_true_eq]; omega
    have ew : S.wrap = (S.setGoes S.row true).down.stand (S.setGoes S.row true).down.row 0 := by
      unfold wrap
      rw [if_pos hf, cg]
    have L1 := lay_goes L0 true
    have L2 := lay_down L1 (by show S.past.length + 1 ≤ S.most; omega)
    obtain ⟨L3, hc, hfl⟩ := lay_stand L2
    obtain ⟨d1, d2, d3, d4⟩ := down_dims (S.setGoes S.row true)
    rw [← ew] at L3 hc hfl
    have e1 : S.wrap.wide = S.wide := by rw [ew]; exact d1
    have e2 : S.wrap.high = S.high := by rw [ew]; exact d2
    have e3 : S.wrap.most = S.most := by rw [ew]; exact d3
    have e4 : S.wrap.rd = S.rd := by rw [ew]; exact d4
    have L4 := lay_type1 L3 hfl hn
    obtain ⟨_, t2, t3, t4, t5, t6⟩ := type1_spot S.wrap n
    have t2 := t2 (by rw [hc, e1]; omega)
    have hm0 := h.2
    have hmm : (l.length + 1) % S.wide = 1 := by rw [Nat.add_mod, hm0, Nat.zero_add, Nat.mod_mod, Nat.mod_eq_of_lt (by omega)]
    refine ⟨⟨?_, ?_, hpl⟩, t3.trans e1, t4.trans e3, t5.trans e2, t6.trans e4⟩
    · show Lay (S.wrap.type1 n) (allRows (ls ++ [l ++ [n]]) (S.wrap.type1 n).wide)
      rw [t3, e1, allRows_snoc, line_put_full (by omega) h, ← List.append_assoc, ← List.append_assoc]
      rw [hc] at L4
      exact L4
    · show if isFull (l ++ [n]).length (S.wrap.type1 n).wide then (S.wrap.type1 n).full = true ∧ (S.wrap.type1 n).column = (S.wrap.type1 n).wide - 1 else (S.wrap.type1 n).full = false ∧ (S.wrap.type1 n).column = (l ++ [n]).length % (S.wrap.type1 n).wide
      rw [t3, e1, List.length_append, List.length_singleton, if_neg (fun z => by rw [z.2] at hmm; cases hmm), hmm, t2.1, t2.2, hc]
      exact ⟨hfl, rfl⟩
  · have hs := A.spot
    rw [if_neg h] at hs
    obtain ⟨hf, hc⟩ := hs
    have ew : S.wrap = S := by unfold wrap; rw [if_neg (by rw [hf]; decide)]
    have ep : S.put n = S.type1 n := by unfold put; rw [ew]
    rw [line_part (by omega) h, ← List.append_assoc] at L0
    have L4 := lay_type1 L0 hf hn
    obtain ⟨t1, t2, t3, t4, t5, t6⟩ := type1_spot S n
    have hlt := Nat.mod_lt l.length (show 0 < S.wide by omega)
    rw [ep]
    refine ⟨⟨?_, ?_, hpl⟩, t3, t4, t5, t6⟩
    · rw [t3, allRows_snoc, line_put_part (by omega) h, ← List.append_assoc]
      rw [hc] at L4
      exact L4
    · rw [t3, List.length_append, List.length_singleton]
      by_cases hcw : S.column = S.wide - 1
      · have hz : (l.length + 1) % S.wide = 0 := by
          rw [Nat.add_mod, ← hc, hcw]
          rw [Nat.mod_eq_of_lt (show 1 < S.wide by omega), show S.wide - 1 + 1 = S.wide by omega, Nat.mod_self]
        rw [if_pos ⟨Nat.succ_pos _, hz⟩]
        exact t1 hcw
      · have hz : (l.length + 1) % S.wide = l.length % S.wide + 1 := by
          rw [Nat.add_mod, Nat.mod_eq_of_lt (show 1 < S.wide by omega), Nat.mod_eq_of_lt (by omega)]
        rw [if_neg (fun z => by have := z.2; omega), hz, ← hc, ← hf]
        exact t2 hcw
end Scr
end Ss
/-! ## lines typed 4: they are joined as they were typed -/
namespace Ss
open PySem PySem.Spec PyProof.Rows L2
namespace Scr
variable {S : Scr}
theorem step_new (S : Scr) (fd : List Ln) (i : Nat) (p : PRow) : S.lnStep (fd, false) i p = (fd ++ [⟨p.cells, if i = S.here then some (S.column + b2n S.full) else none⟩], p.goes) := by
  unfold lnStep
  have e : (if (fd, false).2 = true then (fd, false).1 else (fd, false).1 ++ [noLn]) = fd ++ [noLn] := rfl
  rw [e]
  by_cases h : i = S.here
  · rw [if_pos h, if_pos h, modLast_snoc, modLast_snoc]
    show (fd ++ [(⟨[] ++ p.cells, some (0 + S.column + b2n S.full)⟩ : Ln)], p.goes) = _
    rw [List.nil_append, Nat.zero_add]
  · rw [if_neg h, if_neg h, modLast_snoc]; rfl
theorem step_on (S : Scr) (fd : List Ln) (ln : Ln) (i : Nat) (p : PRow) : S.lnStep (fd ++ [ln], true) i p = (fd ++ [⟨ln.cells ++ p.cells, if i = S.here then some (ln.cells.length + S.column + b2n S.full) else ln.place⟩], p.goes) := by
  unfold lnStep
  have e : (if (fd ++ [ln], true).2 = true then (fd ++ [ln], true).1 else (fd ++ [ln], true).1 ++ [noLn]) = fd ++ [ln] := rfl
  rw [e]
  by_cases h : i = S.here
  · rw [if_pos h, if_pos h, modLast_snoc, modLast_snoc]
  · rw [if_neg h, if_neg h, modLast_snoc]
end Scr
/-- the cells of the first rows -/
def cellsTo (c : List Cell) (w j : Nat) : List Cell := ((cutRows c w j).map (·.cells)).flatten
theorem cellsTo_succ (c : List Cell) (w j : Nat) : cellsTo c w (j + 1) = cellsTo c w j ++ (cutRow c w j).cells := by
  unfold cellsTo; rw [cutRows_succ, List.map_append, List.flatten_append]; simp
theorem cellsTo_len (c : List Cell) (w : Nat) : ∀ j, (cellsTo c w j).length = j * w
  | 0 => by rw [Nat.zero_mul]; rfl
  | j + 1 => by rw [cellsTo_succ, List.length_append, cellsTo_len c w j, cutRow_len, Nat.succ_mul]
theorem goes_iff {m w j : Nat} (hw : 1 ≤ w) (hj : j < nRows m w) : (j * w + w < m ↔ j + 1 < nRows m w) := by
  unfold nRows at hj ⊢
  have h1 : j ≤ (max 1 m - 1) / w := by omega
  constructor
  · intro h
    have : j + 1 ≤ (max 1 m - 1) / w := by
      rw [Nat.le_div_iff_mul_le (by omega), Nat.succ_mul]; omega
    omega
  · intro h
    have : j + 1 ≤ (max 1 m - 1) / w := by omega
    rw [Nat.le_div_iff_mul_le (by omega), Nat.succ_mul] at this
    omega
namespace Scr
variable {S : Scr}
/-- one line's rows are joined -/
theorem join_line {c : List Cell} {w i0 : Nat} {fd : List Ln} (hw : 1 ≤ w) (h0 : S.linesTo i0 = (fd, false)) (hr : ∀ j, j < nRows c.length w → S.all.getD (i0 + j) noRow = cutRow c w j) (hh : ∀ j, j + 1 < nRows c.length w → i0 + j ≠ S.here) :
    ∀ j, 1 ≤ j → j ≤ nRows c.length w → (i0 + j ≠ S.here + 1 ∧ S.linesTo (i0 + j) = (fd ++ [⟨cellsTo c w j, none⟩], decide (j < nRows c.length w))) ∨ (i0 + j = S.here + 1 ∧ S.linesTo (i0 + j) = (fd ++ [⟨cellsTo c w j, some ((cellsTo c w (j - 1)).length + S.column + b2n S.full)⟩], decide (j < nRows c.length w)))
  | 0, h, _ => absurd h (by omega)
  | 1, _, hk => by
    have e : S.linesTo (i0 + 1) = S.lnStep (S.linesTo i0) i0 (S.all.getD i0 noRow) := rfl
    have hc := hr 0 (by omega)
    rw [Nat.add_zero] at hc
    have g : (cutRow c w 0).goes = decide (1 < nRows c.length w) := by
      show decide (0 * w + w < c.length) = _
      rw [Bool.eq_iff_iff, decide_eq_true_eq, decide_eq_true_eq]
      exact goes_iff hw (by omega)
    have ec : cellsTo c w 1 = (cutRow c w 0).cells := by rw [cellsTo_succ]; rfl
    rw [e, h0, step_new, hc, g, ec]
    by_cases hi : i0 = S.here
    · right
      rw [if_pos hi]
      refine ⟨by omega, ?_⟩
      show _ = (fd ++ [⟨(cutRow c w 0).cells, some (0 + S.column + b2n S.full)⟩], _)
      rw [Nat.zero_add]
    · left
      rw [if_neg hi]
      exact ⟨by omega, rfl⟩
  | j + 2, _, hk => by
    have ih := join_line hw h0 hr hh (j + 1) (by omega) (by omega)
    have hne := hh j (by omega)
    have e : S.linesTo (i0 + (j + 2)) = S.lnStep (S.linesTo (i0 + (j + 1))) (i0 + (j + 1)) (S.all.getD (i0 + (j + 1)) noRow) := rfl
    have hc := hr (j + 1) (by omega)
    have g : (cutRow c w (j + 1)).goes = decide (j + 2 < nRows c.length w) := by
      show decide ((j + 1) * w + w < c.length) = _
      rw [Bool.eq_iff_iff, decide_eq_true_eq, decide_eq_true_eq]
      exact goes_iff hw (by omega)
    have ih' : S.linesTo (i0 + (j + 1)) = (fd ++ [⟨cellsTo c w (j + 1), none⟩], true) := by
      rcases ih with ⟨_, ih⟩ | ⟨z, _⟩
      · rw [ih, decide_eq_true (by omega)]
      · omega
    rw [e, ih', step_on, hc, g, ← cellsTo_succ]
    by_cases hi : i0 + (j + 1) = S.here
    · right
      rw [if_pos hi]
      exact ⟨by omega, rfl⟩
    · left
      rw [if_neg hi]
      exact ⟨by omega, rfl⟩
end Scr
theorem nRows_mul {m w : Nat} (hw : 1 ≤ w) : m ≤ nRows m w * w := by
  unfold nRows
  have h := Nat.div_add_mod (max 1 m - 1) w
  have h2 := Nat.mod_lt (max 1 m - 1) (show 0 < w by omega)
  rw [Nat.succ_mul]
  rw [Nat.mul_comm] at h
  omega
theorem nRows_low {m w j : Nat} (hw : 1 ≤ w) (hj : j < nRows m w) : j * w ≤ m := by
  unfold nRows at hj
  have h : j ≤ (max 1 m - 1) / w := by omega
  rw [Nat.le_div_iff_mul_le (by omega)] at h
  rcases Nat.eq_zero_or_pos m with z | z
  · subst z
    have : max 1 0 - 1 = 0 := rfl
    omega
  · omega
def padL (c : List Cell) (w k : Nat) : List Cell := c ++ List.replicate (k * w - c.length) blankCell
theorem padL_len {c : List Cell} {w k : Nat} (h : c.length ≤ k * w) : (padL c w k).length = k * w := by unfold padL; rw [List.length_append, List.length_replicate]; omega
theorem cutRow_pad {c : List Cell} {w j : Nat} (hw : 1 ≤ w) (hj : j < nRows c.length w) : (cutRow c w j).cells = ((padL c w (nRows c.length w)).drop (j * w)).take w := by
  have h1 := nRows_low hw hj
  have h2 := nRows_mul (m := c.length) hw
  have h3 : (j + 1) * w ≤ nRows c.length w * w := Nat.mul_le_mul_right _ hj
  rw [Nat.succ_mul] at h3
  unfold padL
  rw [List.drop_append_of_le_length h1, List.take_append]
  show (c.drop (j * w)).take w ++ List.replicate (w - ((c.drop (j * w)).take w).length) blankCell = _
  congr 1
  rw [List.take_replicate, List.length_take, List.length_drop]
  congr 1
  omega
theorem cellsTo_pad {c : List Cell} {w : Nat} (hw : 1 ≤ w) : ∀ j, j ≤ nRows c.length w → cellsTo c w j = (padL c w (nRows c.length w)).take (j * w)
  | 0, _ => by rw [Nat.zero_mul, List.take_zero]; rfl
  | j + 1, hj => by
    rw [cellsTo_succ, cellsTo_pad hw j (by omega), cutRow_pad hw (by omega), Nat.succ_mul, List.take_add]
theorem cellsTo_all {c : List Cell} {w : Nat} (hw : 1 ≤ w) : cellsTo c w (nRows c.length w) = padL c w (nRows c.length w) := by
  rw [cellsTo_pad hw _ (Nat.le_refl _), List.take_of_length_le (by rw [padL_len (nRows_mul hw)]; exact Nat.le_refl _)]
/-- what is padded is trimmed again -/
theorem trimN_pad {c : List Cell} {k least : Nat} (hl : least ≤ c.length) (hc : ∀ x ∈ c, x ≠ blankCell) : ∀ n, c.length ≤ n → n ≤ c.length + k → trimN (c ++ List.replicate k blankCell) least n = c.length
  | 0, h, _ => by
    have e : c.length = 0 := by omega
    rw [e]; rfl
  | n + 1, h, h2 => by
    unfold trimN
    by_cases hn : c.length ≤ n
    · have e : (c ++ List.replicate k blankCell).getD n blankCell = blankCell := by
        rw [List.getD_eq_getElem?_getD, List.getElem?_append_right hn, List.getElem?_replicate]
        split <;> rfl
      rw [if_pos ⟨by omega, e⟩]
      exact trimN_pad hl hc n hn (by omega)
    · have hn2 : n < c.length := by omega
      have e : (c ++ List.replicate k blankCell).getD n blankCell ≠ blankCell := by
        rw [List.getD_eq_getElem?_getD, List.getElem?_append_left hn2, List.getElem?_eq_getElem hn2]
        exact hc _ (List.getElem_mem hn2)
      rw [if_neg fun z => e z.2]
      omega
theorem trimL_pad {c : List Cell} {w k least : Nat} (hl : least ≤ c.length) (hc : ∀ x ∈ c, x ≠ blankCell) : trimL (padL c w k) least = c := by
  unfold trimL padL
  rw [trimN_pad hl hc _ (by rw [List.length_append]; omega) (by rw [List.length_append, List.length_replicate]; exact Nat.le_refl _), List.take_left]
theorem tc_blank {l : List Nat} (h : ∀ n ∈ l, n ≠ 32) : ∀ x ∈ tc l, x ≠ blankCell := fun x hx e => by
  obtain ⟨n, hn, rfl⟩ := List.mem_map.mp hx
  have e' : n = 32 := congrArg Cell.sign e
  exact h n hn e'
theorem layCells_pad {l : List Nat} {w : Nat} {pl : Option Nat} (h : ∀ n ∈ l, n ≠ 32) (hp : pl = none ∨ pl = some l.length) : layCells ⟨padL (tc l) w (nRows l.length w), pl⟩ = tc l := by
  unfold layCells
  refine trimL_pad ?_ (tc_blank h)
  rw [tc_len]
  rcases hp with rfl | rfl
  · exact Nat.le_trans (Nat.min_le_left _ _) (Nat.zero_le _)
  · exact Nat.min_le_left _ _
theorem layRows_pad {l : List Nat} {w w' : Nat} {pl : Option Nat} (h : ∀ n ∈ l, n ≠ 32) (hp : pl = none ∨ pl = some l.length) : layRows ⟨padL (tc l) w (nRows l.length w), pl⟩ w' = lineRows l w' := by
  unfold layRows lineRows
  rw [layCells_pad h hp, tc_len]
theorem laySpot_pad {l : List Nat} {w w' : Nat} (hw : 1 ≤ w') (h : ∀ n ∈ l, n ≠ 32) : laySpot ⟨padL (tc l) w (nRows l.length w), some l.length⟩ w' = some (nRows l.length w' - 1, if isFull l.length w' then (w' - 1, true) else (l.length % w', false)) := by
  unfold laySpot
  rw [layRows_pad h (.inr rfl), lineRows_len]
  show some (if l.length = nRows l.length w' * w' then (nRows l.length w' - 1, w' - 1, true) else (l.length / w', l.length % w', false)) = _
  by_cases hf : isFull l.length w'
  · obtain ⟨h1, _, _, h4⟩ := nRows_full hw hf
    rw [if_pos hf, if_pos (by rw [h1]; exact h4.symm)]
  · obtain ⟨h1, _, hm⟩ := nRows_part hw hf
    have hlt := Nat.mod_lt l.length (show 0 < w' by omega)
    have hdm := Nat.div_add_mod l.length w'
    rw [Nat.mul_comm] at hdm
    rw [if_neg hf, if_neg (by rw [h1, Nat.succ_mul]; omega), h1, Nat.add_sub_cancel]
end Ss
/-! ## lines typed 5: other sizes -/
namespace Ss
open PySem PySem.Spec PyProof.Rows L2
def padLn (w : Nat) (m : List Nat) : Ln := ⟨padL (tc m) w (nRows m.length w), none⟩
theorem lastN_here {rows : List PRow} {here : Nat} (h : ∀ i, here < i → i < rows.length → isBl (rows.getD i noRow) = true) : ∀ n, here < n → n ≤ rows.length → lastN rows here n = here + 1
  | 0, h0, _ => absurd h0 (Nat.not_lt_zero _)
  | n + 1, h0, h1 => by
    unfold lastN
    by_cases hn : here < n
    · rw [if_pos ⟨hn, h n hn (by omega)⟩]
      exact lastN_here h n hn (by omega)
    · rw [if_neg fun z => hn z.1]; omega
theorem isBl_blank (w : Nat) : isBl (blankRow w) = true := List.all_eq_true.mpr fun x hx => by rw [(List.mem_replicate.mp hx).2]; exact decide_eq_true rfl
theorem getD_app1 {α : Type} {a b : List α} {d : α} {i : Nat} (h : i < a.length) : (a ++ b).getD i d = a.getD i d := by
  rw [List.getD_eq_getElem?_getD, List.getElem?_append_left h, ← List.getD_eq_getElem?_getD]
theorem getD_app2 {α : Type} {a b : List α} {d : α} {i : Nat} : (a ++ b).getD (a.length + i) d = b.getD i d := by
  rw [List.getD_eq_getElem?_getD, List.getElem?_append_right (Nat.le_add_right _ _), Nat.add_sub_cancel_left, ← List.getD_eq_getElem?_getD]
theorem lineRows_get {m : List Nat} {w j : Nat} (h : j < nRows m.length w) : (lineRows m w).getD j noRow = cutRow (tc m) w j := by
  unfold lineRows cutRows
  rw [List.getD_eq_getElem?_getD, List.getElem?_map, List.getElem?_range h]; rfl
theorem take_snoc {α : Type} {l : List α} {k : Nat} {d : α} (h : k < l.length) : l.take (k + 1) = l.take k ++ [l.getD k d] := by
  rw [List.take_succ, List.getElem?_eq_getElem h, List.getD_eq_getElem?_getD, List.getElem?_eq_getElem h]; rfl
theorem allRows_app (a b : List (List Nat)) (w : Nat) : allRows (a ++ b) w = allRows a w ++ allRows b w := by
  unfold allRows; rw [List.map_append, List.flatten_append]
namespace Scr
variable {S : Scr}
theorem typed_all {R : List PRow} (A : Lay S R) : S.all = R ++ S.rows.drop (S.row + 1) := by
  unfold all
  rw [← A.rows, List.append_assoc, List.take_append_drop]
theorem typed_lines {ls : List (List Nat)} {l : List Nat} (A : Typed S ls l) : S.lines = ls.map (padLn S.wide) ++ [⟨padL (tc l) S.wide (nRows l.length S.wide), some l.length⟩] := by
  have L := A.lay
  have wf := L.wf
  have w1 : 1 ≤ S.wide := by have := wf.w1; omega
  have hp := lay_past L
  have hall := typed_all L
  have hh : S.here + 1 = (allRows (ls ++ [l]) S.wide).length := hp
  rw [allRows_snoc] at hall hh
  have hk := nRows_pos l.length S.wide
  have hlen : S.here + 1 = (allRows ls S.wide).length + nRows l.length S.wide := by rw [hh, List.length_append, lineRows_len]
  -- how far
  have hlast : S.lastRow = S.here + 1 := by
    have hal : S.all.length = S.past.length + S.high := by unfold all; rw [List.length_append, wf.rl]
    have hr := wf.row
    refine lastN_here (fun i h1 h2 => ?_) _ (by unfold here; omega) (Nat.le_refl _)
    have h1' : S.past.length + S.row < i := h1
    have e : S.all.getD i noRow = S.rowAt (i - S.past.length) := by
      unfold all rowAt
      rw [List.getD_eq_getElem?_getD, List.getElem?_append_right (by omega), ← List.getD_eq_getElem?_getD]
    rw [e, L.rest _ (by omega) (by omega)]
    exact isBl_blank _
  -- the lines ahead
  have ahead : ∀ k, k ≤ ls.length → S.linesTo (allRows (ls.take k) S.wide).length = ((ls.take k).map (padLn S.wide), false) := by
    intro k
    induction k with
    | zero => intro _; rfl
    | succ k ih =>
      intro hk'
      have ih := ih (by omega)
      have et := take_snoc (d := ([] : List Nat)) (show k < ls.length by omega)
      have es : ls = ls.take (k + 1) ++ ls.drop (k + 1) := (List.take_append_drop _ _).symm
      generalize hm : ls.getD k [] = m at et
      have hal2 : S.all = allRows (ls.take k) S.wide ++ (lineRows m S.wide ++ (allRows (ls.drop (k + 1)) S.wide ++ lineRows l S.wide ++ S.rows.drop (S.row + 1))) := by
        rw [hall]
        conv => lhs; rw [es, et, allRows_app, allRows_snoc]
        simp only [List.append_assoc]
      have hle : (allRows (ls.take k) S.wide).length + nRows m.length S.wide ≤ (allRows ls S.wide).length := by
        conv => rhs; rw [es, et, allRows_app, allRows_snoc]
        rw [List.length_append, List.length_append, lineRows_len]; omega
      have hr : ∀ j, j < nRows (tc m).length S.wide → S.all.getD ((allRows (ls.take k) S.wide).length + j) noRow = cutRow (tc m) S.wide j := fun j hj => by
        rw [tc_len] at hj
        rw [hal2, getD_app2, getD_app1 (by rw [lineRows_len]; exact hj), lineRows_get hj]
      have z := join_line w1 ih hr (fun j hj => by rw [tc_len] at hj; omega) (nRows (tc m).length S.wide) (nRows_pos _ _) (Nat.le_refl _)
      rw [tc_len] at z
      rw [et, allRows_snoc, List.length_append, lineRows_len]
      rcases z with ⟨_, z⟩ | ⟨z, _⟩
      · rw [z, decide_eq_false (Nat.lt_irrefl _), List.map_append]
        have ec : cellsTo (tc m) S.wide (nRows m.length S.wide) = padL (tc m) S.wide (nRows m.length S.wide) := by
          have y := cellsTo_all (c := tc m) w1
          rw [tc_len] at y; exact y
        rw [ec]; rfl
      · omega
  have h1 := ahead ls.length (Nat.le_refl _)
  rw [List.take_length] at h1
  have hr : ∀ j, j < nRows (tc l).length S.wide → S.all.getD ((allRows ls S.wide).length + j) noRow = cutRow (tc l) S.wide j := fun j hj => by
    rw [tc_len] at hj
    rw [hall, List.append_assoc, getD_app2, getD_app1 (by rw [lineRows_len]; exact hj), lineRows_get hj]
  have z := join_line w1 h1 hr (fun j hj => by rw [tc_len] at hj; omega) (nRows (tc l).length S.wide) (nRows_pos _ _) (Nat.le_refl _)
  rw [tc_len] at z
  unfold lines
  rw [hlast, hlen]
  rcases z with ⟨z, _⟩ | ⟨_, z⟩
  · omega
  · rw [z]
    have ec : cellsTo (tc l) S.wide (nRows l.length S.wide) = padL (tc l) S.wide (nRows l.length S.wide) := by
      have y := cellsTo_all (c := tc l) w1
      rw [tc_len] at y; exact y
    have epl : (cellsTo (tc l) S.wide (nRows l.length S.wide - 1)).length + S.column + b2n S.full = l.length := by
      rw [cellsTo_len]
      have hs := A.spot
      by_cases hf : isFull l.length S.wide
      · rw [if_pos hf] at hs
        obtain ⟨k1, _, k3, k4⟩ := nRows_full w1 hf
        rw [hs.1, hs.2, k1, Nat.sub_mul, k4]
        show l.length - 1 * S.wide + (S.wide - 1) + 1 = l.length
        have : 1 * S.wide ≤ l.length / S.wide * S.wide := Nat.mul_le_mul_right _ k3
        omega
      · rw [if_neg hf] at hs
        obtain ⟨k1, _, _⟩ := nRows_part w1 hf
        have hdm := Nat.div_add_mod l.length S.wide
        rw [Nat.mul_comm] at hdm
        rw [hs.1, hs.2, k1, Nat.add_sub_cancel]
        show l.length / S.wide * S.wide + l.length % S.wide + 0 = l.length
        omega
    rw [ec, epl]
end Scr
end Ss
/-! ## lines typed 6: they are laid anew -/
namespace Ss
open PySem PySem.Spec PyProof.Rows L2
namespace Scr
variable {S : Scr}
theorem typed_laid {ls : List (List Nat)} {l : List Nat} (A : Typed S ls l) {w : Nat} (hw : 1 ≤ w) :
    S.laidAll w = (allRows (ls ++ [l]) w, some ((allRows ls w).length + (nRows l.length w - 1), if isFull l.length w then (w - 1, true) else (l.length % w, false))) := by
  have hl := typed_lines A
  have hn : S.lines.length = ls.length + 1 := by rw [hl, List.length_append, List.length_map]; rfl
  have ahead : ∀ k, k ≤ ls.length → layTo S.lines w k = (allRows (ls.take k) w, none) := by
    intro k
    induction k with
    | zero => intro _; rfl
    | succ k ih =>
      intro hk
      have hk' : k < ls.length := by omega
      rw [layTo_succ (by omega), ih (by omega), take_snoc (d := ([] : List Nat)) hk', allRows_snoc]
      have e : S.lines.getD k noLn = padLn S.wide (ls.getD k []) := by
        rw [hl, getD_app1 (by rw [List.length_map]; exact hk'), List.getD_eq_getElem?_getD, List.getElem?_map, List.getElem?_eq_getElem hk', List.getD_eq_getElem?_getD, List.getElem?_eq_getElem hk']; rfl
      have hpl : ∀ n ∈ ls.getD k [], n ≠ 32 := A.plain _ (List.mem_append_left _ (getD_mem hk'))
      rw [e]
      unfold layStep padLn
      rw [layRows_pad hpl (.inl rfl)]
      rfl
  unfold laidAll
  rw [hn, layTo_succ (by omega), ahead ls.length (Nat.le_refl _), List.take_length]
  have e : S.lines.getD ls.length noLn = ⟨padL (tc l) S.wide (nRows l.length S.wide), some l.length⟩ := by
    rw [hl]
    have z := getD_app2 (a := ls.map (padLn S.wide)) (b := [(⟨padL (tc l) S.wide (nRows l.length S.wide), some l.length⟩ : Ln)]) (d := noLn) (i := 0)
    rw [List.length_map, Nat.add_zero] at z
    rw [z]; rfl
  have hpl : ∀ n ∈ l, n ≠ 32 := A.plain _ (by simp)
  rw [e]
  unfold layStep
  rw [layRows_pad hpl (.inr rfl), laySpot_pad hw hpl, allRows_snoc]
theorem typed_resize {ls : List (List Nat)} {l : List Nat} (A : Typed S ls l) {w h : Nat} (hw : 2 ≤ w ∧ w ≤ 60) (hh : 2 ≤ h ∧ h ≤ 40) (room : (allRows (ls ++ [l]) w).length ≤ S.most) :
    Typed (S.resized w h) ls l ∧ (S.resized w h).wide = w ∧ (S.resized w h).high = h ∧ (S.resized w h).most = S.most ∧ (S.resized w h).rd = S.rd := by
  have wf := A.lay.wf
  have w1 : 1 ≤ w := by omega
  have hL := typed_laid A w1
  have hwf := resized_wf wf hw hh
  have hok := resized_ok wf A.lay.ok hw hh
  have hlt := Nat.mod_lt l.length (show 0 < w by omega)
  have hk := nRows_pos l.length w
  generalize hD : allRows (ls ++ [l]) w = D at hL room
  have hDl : D.length = (allRows ls w).length + nRows l.length w := by rw [← hD, allRows_snoc, List.length_append, lineRows_len]
  generalize hcb : (if isFull l.length w then (w - 1, true) else (l.length % w, false)) = cb at hL
  have hcur : S.rszCur w = (D.length - 1, cb.1, cb.2) := by
    unfold rszCur
    rw [hL]
    show ((allRows ls w).length + (nRows l.length w - 1), cb) = _
    rw [show (allRows ls w).length + (nRows l.length w - 1) = D.length - 1 by omega]
  have hf : S.rszFirst w h = D.length - h := by unfold rszFirst; rw [hcur, hL]; show min (D.length - h) (D.length - 1) = _; omega
  have hsh : S.rszShown w h = D.drop (D.length - h) := by
    unfold rszShown
    rw [hf, hL]
    show (D.drop (D.length - h)).take h = _
    exact List.take_of_length_le (by rw [List.length_drop]; omega)
  have hpa : S.rszPast w h = D.take (D.length - h) := by
    unfold rszPast
    rw [hf, hL]
    show (D.take (D.length - h)).drop (D.length - h - S.most) = _
    rw [show D.length - h - S.most = 0 by omega]; rfl
  have hsl : (D.drop (D.length - h)).length = min h D.length := by rw [List.length_drop]; omega
  have hD1 : 1 ≤ D.length := by omega
  have hro : S.rszRows w h = D.drop (D.length - h) ++ List.replicate (h - min h D.length) (blankRow w) := by unfold rszRows; rw [hsh, hsl]
  -- the last row goes on nowhere
  have hlastD : (D.getD (D.length - 1) noRow).goes = false := by
    have e : D = (allRows ls w ++ cutRows (tc l) w (nRows l.length w - 1)) ++ [cutRow (tc l) w (nRows l.length w - 1)] := by
      rw [← hD, allRows_snoc, lineRows_last, List.append_assoc]
    have el : D.length - 1 = (allRows ls w ++ cutRows (tc l) w (nRows l.length w - 1)).length + 0 := by
      rw [e, List.length_append (bs := [_]), List.length_singleton]; rfl
    rw [el]
    conv => lhs; rw [e]
    rw [getD_app2]
    show decide ((nRows l.length w - 1) * w + w < (tc l).length) = false
    refine decide_eq_false fun z => ?_
    rw [tc_len] at z
    have y := (goes_iff (m := l.length) (j := nRows l.length w - 1) w1 (by omega)).mp z
    omega
  have hlr : (S.rszRows w h).set (h - 1) { (S.rszRows w h).getD (h - 1) noRow with goes := false } = S.rszRows w h := by
    have hg : ((S.rszRows w h).getD (h - 1) noRow).goes = false := by
      rw [hro]
      by_cases hh2 : h ≤ D.length
      · rw [getD_app1 (by rw [hsl]; omega), List.getD_eq_getElem?_getD, List.getElem?_drop, ← List.getD_eq_getElem?_getD, show D.length - h + (h - 1) = D.length - 1 by omega]
        exact hlastD
      · have e : h - 1 = (D.drop (D.length - h)).length + (h - 1 - min h D.length) := by rw [hsl]; omega
        rw [e, getD_app2, List.getD_eq_getElem?_getD, List.getElem?_replicate]
        split <;> rfl
    have e : ({ (S.rszRows w h).getD (h - 1) noRow with goes := false } : PRow) = (S.rszRows w h).getD (h - 1) noRow := by
      generalize (S.rszRows w h).getD (h - 1) noRow = p at hg
      obtain ⟨a, b⟩ := p
      have hg' : b = false := hg
      subst hg'; rfl
    rw [e]
    refine List.ext_getElem? fun j => ?_
    by_cases ej : h - 1 = j
    · subst ej
      by_cases hj : h - 1 < (S.rszRows w h).length
      · rw [List.getElem?_set_self hj, List.getD_eq_getElem?_getD, List.getElem?_eq_getElem hj]; rfl
      · rw [List.getElem?_eq_none (by rw [List.length_set]; omega), List.getElem?_eq_none (by omega)]
    · rw [List.getElem?_set_ne ej]
  have hrow : (S.resized w h).row = min h D.length - 1 := by
    show (max 0 (min ((h : Int) - 1) (((S.rszCur w).1 : Int) - (S.rszFirst w h : Nat)))).toNat = _
    rw [hcur, hf]
    show (max 0 (min ((h : Int) - 1) (((D.length - 1 : Nat) : Int) - ((D.length - h : Nat) : Int)))).toNat = _
    omega
  have hrows : (S.resized w h).rows = S.rszRows w h := hlr
  have hcbw : cb.1 < w := by rw [← hcb]; split <;> (first | (show w - 1 < w; omega) | exact hlt)
  refine ⟨⟨⟨hwf, hok, A.lay.pen, rfl, rfl, ?_, ?_⟩, ?_, A.plain⟩, rfl, rfl, rfl, rfl⟩
  · show S.rszPast w h ++ (S.resized w h).rows.take ((S.resized w h).row + 1) = allRows (ls ++ [l]) w
    rw [hrow, hrows, hpa, hro, show min h D.length - 1 + 1 = min h D.length by omega, List.take_left' hsl, List.take_append_drop, hD]
  · intro i h1 h2
    show (S.resized w h).rows.getD i ⟨[], false⟩ = blankRow w
    rw [hrow] at h1
    have h2' : i < h := h2
    rw [hrows, hro]
    have e : i = (D.drop (D.length - h)).length + (i - min h D.length) := by rw [hsl]; omega
    rw [e, getD_app2, List.getD_eq_getElem?_getD, List.getElem?_replicate, if_pos (by omega)]; rfl
  · have hcol : (S.resized w h).column = cb.1 := by
      show (max 0 (min ((w : Int) - 1) ((S.rszCur w).2.1 : Nat))).toNat = cb.1
      rw [hcur]
      show (max 0 (min ((w : Int) - 1) ((cb.1 : Nat) : Int))).toNat = cb.1
      omega
    have hful : (S.resized w h).full = cb.2 := by
      show (S.rszCur w).2.2 = cb.2
      rw [hcur]
    show if isFull l.length w then (S.resized w h).full = true ∧ (S.resized w h).column = w - 1 else (S.resized w h).full = false ∧ (S.resized w h).column = l.length % w
    rw [hcol, hful, ← hcb]
    by_cases hi : isFull l.length w
    · rw [if_pos hi, if_pos hi]; exact ⟨rfl, rfl⟩
    · rw [if_neg hi, if_neg hi]; exact ⟨rfl, rfl⟩
end Scr
end Ss
/-! ## law k41: what is due -/
namespace Ss
open PySem PySem.Spec PyProof.Rows L2
open Ss in
local macro_rules | `(tactic| walk_at "fg") => `(tactic| first | with_reducible exact fsScreen_g0 | with_reducible exact fsScreen_g1 | with_reducible exact fsScreen_g2 | with_reducible exact fsScreen_g3 | with_reducible exact fsScreen_g4 | with_reducible exact fsScreen_g5 | with_reducible exact fsScreen_g6 | with_reducible exact fsScreen_g7 | with_reducible exact fsScreen_g8 | with_reducible exact fsScreen_g9 | with_reducible exact fsScreen_g10 | with_reducible exact fsScreen_g11 | with_reducible exact fsScreen_g12 | with_reducible exact fsScreen_g13 | with_reducible exact fsRow_g0 | with_reducible exact fsRow_g1)
open Ss in
local macro_rules | `(tactic| walk_at "r") => `(tactic| repeat (first
  | with_reducible refine x_seq ?_ | with_reducible refine x_asg ?_ | with_reducible refine x_var rfl ?_ | with_reducible refine x_c ?_ | with_reducible refine x_op ?_ | with_reducible refine x_name ?_ | with_reducible refine x_gcons ?_ | with_reducible refine x_gnil ?_
  | with_reducible refine x_cons ?_ | with_reducible refine x_nil ?_ | with_reducible refine x_cb ?_ | with_reducible refine x_ifs ?_ | with_reducible refine x_test ?_ | with_reducible refine x_bl ?_
  | with_reducible refine g_addNN ?_ | with_reducible refine g_addNL ?_ | with_reducible refine g_addLN ?_ | with_reducible refine l_addI ?_ | with_reducible refine l_subI ?_ | with_reducible refine g_ltNL ?_ | with_reducible refine l_ltI ?_ | with_reducible refine l_leI ?_ | with_reducible refine l_gtI ?_ | with_reducible refine l_geI ?_ | with_reducible refine l_eqX ?_ | with_reducible refine l_neX ?_ | with_reducible refine g_eqNL ?_ | with_reducible refine l_eqII ?_ | with_reducible refine l_neII ?_ | with_reducible refine l_eq rfl ?_ | with_reducible refine l_ne rfl ?_
  | with_reducible refine x_fld ?_ | with_reducible refine x_ret ?_ | with_reducible refine x_drop ?_ | with_reducible refine x_next ?_ | with_reducible refine x_tup ?_ | with_reducible refine x_lst ?_ | with_reducible refine x_f ?_ | with_reducible refine x_o ?_ | with_reducible refine x_n ?_
  | with_reducible refine x_bm ?_ | with_reducible refine x_bm0 ?_ | with_reducible refine x_m1 ?_ | with_reducible refine x_m0 ?_ | with_reducible refine x_isstr ?_ | with_reducible refine x_tystr ?_ | with_reducible refine x_sl ?_ | with_reducible refine x_part ?_ | with_reducible refine x_part' ?_ | with_reducible refine x_nopart ?_
  | with_reducible refine x_sfld ?_ | with_reducible refine x_if ?_ | with_reducible refine x_isty ?_ | with_reducible refine x_chain ?_ | with_reducible refine x_andV ?_ | with_reducible refine x_orV ?_ | with_reducible refine x_notV ?_ | with_reducible refine x_B ?_ | with_reducible refine x_and ?_ | with_reducible refine x_or ?_ | with_reducible refine x_not ?_ | with_reducible refine x_tru ?_ | with_reducible refine x_yes ?_
  | with_reducible refine x_un ?_ | with_reducible refine x_neg ?_ | with_reducible refine x_par ?_ | with_reducible refine x_par' ?_ | with_reducible refine x_retN ?_ | with_reducible refine x_brk ?_ | with_reducible refine x_cont ?_ | with_reducible refine x_rz ?_
  | with_reducible refine l_leS ?_ | with_reducible refine l_ltS ?_ | with_reducible refine l_inX ?_ | with_reducible refine l_niX ?_ | with_reducible refine l_inS ?_ | with_reducible refine l_niS ?_ | with_reducible refine l_count ?_ | with_reducible refine l_ord ?_ | with_reducible refine l_max ?_ | with_reducible refine l_min ?_ | with_reducible refine l_intI ?_ | with_reducible refine l_intB ?_ | with_reducible refine l_is ?_ | with_reducible refine l_isn ?_
  | with_reducible refine g_modNL (by decide) ?_ | with_reducible refine g_divNL (by decide) (by decide) ?_ | with_reducible refine l_modI (by decide) ?_ | with_reducible refine x_for ?_ | with_reducible refine x_lc ?_ | with_reducible refine x_ilist ?_ | with_reducible refine x_itup ?_ | with_reducible refine x_istr ?_ | with_reducible refine x_istr' ?_ | with_reducible refine x_irng1 ?_ | with_reducible refine x_irng2 ?_
  | (with_reducible refine x_get (by first | assumption | exact Hold.get0 (by assumption) | exact Hold.get1 (by assumption)) (by assumption) (by assumption) (by walk_at "fg") ?_)
  | (with_reducible refine x_ao (by first | assumption | exact Hold.get0 (by assumption) | exact Hold.get1 (by assumption)) (by kernel_rfl) ?_)
  | with_reducible refine x_ienum ?_ | with_reducible refine x_izip ?_ | with_reducible refine x_chain3 ?_
  | (with_reducible refine x_par2 ?_)
  | (with_reducible refine x_par3 ?_) | (with_reducible refine x_par3' ?_)))
def cutT (l : List Nat) (w j : Nat) : List Nat := (l.drop (j * w)).take w
def cutsT (l : List Nat) (w : Nat) : List (List Nat) := (List.range (nRows l.length w)).map (cutT l w)
def dueL (ls : List (List Nat)) (w : Nat) : List (List Nat) := (ls.map fun l => cutsT l w).flatten
theorem rstripL_pad {x : List Nat} (h : ∀ n ∈ x, n ≠ 32) (k : Nat) : rstripL (x ++ List.replicate k 32) = x := by
  unfold rstripL
  rw [List.reverse_append, List.reverse_replicate]
  have e1 : ∀ k, (List.replicate k 32 ++ x.reverse).dropWhile (· == 32) = x.reverse := by
    intro k
    induction k with
    | zero =>
      rw [List.replicate_zero, List.nil_append]
      cases hx : x.reverse with
      | nil => rfl
      | cons a r =>
        have ha : a ≠ 32 := h a (List.mem_reverse.mp (by rw [hx]; exact List.mem_cons_self))
        rw [List.dropWhile_cons, if_neg (by simpa using ha)]
    | succ k ih => rw [List.replicate_succ, List.cons_append, List.dropWhile_cons, if_pos (by decide)]; exact ih
  rw [e1, List.reverse_reverse]
theorem rstripL_id {x : List Nat} (h : ∀ n ∈ x, n ≠ 32) : rstripL x = x := by
  have z := rstripL_pad h 0
  rwa [List.replicate_zero, List.append_nil] at z
theorem cutT_mem {l : List Nat} {w j n : Nat} (h : n ∈ cutT l w j) : n ∈ l := List.mem_of_mem_drop (List.mem_of_mem_take h)
theorem rowL_cut {l : List Nat} {w j : Nat} (h : ∀ n ∈ l, n ≠ 32) : rowL (cutRow (tc l) w j) = cutT l w j := by
  have e : (cutRow (tc l) w j).cells.map (·.sign) = cutT l w j ++ List.replicate (w - (((tc l).drop (j * w)).take w).length) 32 := by
    show (((tc l).drop (j * w)).take w ++ List.replicate _ blankCell).map (·.sign) = _
    rw [List.map_append, List.map_replicate, List.map_take, List.map_drop]
    have e2 : (tc l).map (·.sign) = l := by unfold tc; rw [List.map_map]; exact List.map_id' l
    rw [e2]; rfl
  unfold rowL
  rw [e]
  exact rstripL_pad (fun n hn => h n (cutT_mem hn)) _
theorem rowL_empty (w : Nat) : rowL (blankRow w) = [] := by
  unfold rowL blankRow
  rw [List.map_replicate]
  exact rstripL_pad (x := []) (fun _ h => (nomatch h)) w
theorem rowL_lines {ls : List (List Nat)} {w : Nat} (h : ∀ m ∈ ls, ∀ n ∈ m, n ≠ 32) : (allRows ls w).map rowL = dueL ls w := by
  unfold allRows dueL
  rw [List.map_flatten, List.map_map]
  congr 1
  refine List.map_congr_left fun m hm => ?_
  show (lineRows m w).map rowL = cutsT m w
  unfold lineRows cutRows cutsT
  rw [List.map_map]
  exact List.map_congr_left fun j _ => rowL_cut (h m hm)
theorem dueL_snoc (ls : List (List Nat)) (l : List Nat) (w : Nat) : dueL (ls ++ [l]) w = dueL ls w ++ cutsT l w := by
  unfold dueL; rw [List.map_append, List.flatten_append]; simp
theorem cutsT_len {l : List Nat} {w : Nat} (hw : 1 ≤ w) : (cutsT l w).length ≤ l.length + 1 := by
  unfold cutsT; rw [List.length_map, List.length_range]; exact nRows_le hw
def sp__law_rows (c : Ctx) : Sp := fun vs H Q _ => ∃ (p : Addr) (ls : List (List Nat)) (w : Nat) (F : Hp) (L : List (Addr × HO)), vs = [.ref p, .int (w : Nat)] ∧ SqL c.K F p (SV ls) ∧ ls.length ≤ 100 ∧ (∀ l ∈ ls, l.length ≤ 100 ∧ ∀ n ∈ l, n ≠ 32) ∧ 2 ≤ w ∧ w ≤ 60 ∧ Hold F L H ∧
  ∀ (r : Addr) F' H', Same F F' → F' r = some (.lst (SV (dueL ls w))) → Hold F' L H' → Q (.ref r) H'
def t__law_rows (c : Ctx) (E : XK) : TS :=
  (tSeq (tAsg (tLst tNil) (gName 2))
  (tSeq (tFor (iList c.K (tVar 0)) (gName 3) (tAsg (tOp (uAdd c.K) (tVar 2) (tLc (iRng3 (tCons (tC (.int 0)) (tCons (tCB uMax (tCons (tC (.int 1)) (tCons (tCB (uLen c.K) (tCons (tVar 3) tNil)) tNil))) (tCons (tVar 1) tNil)))) (gName 4) tYes (tBM c.K "str" u_rstrip (tSl (uSl c.K) (tVar 3) (tPart (tVar 4)) (tPart (tOp (uAdd c.K) (tVar 4) (tVar 1)))) (tCons (tC (.str ⟨#[32]⟩)) tNil)) [4])) (gName 2)))
  (tRet (tVar 2))))
abbrev N__law_rows : List Str := ["_law_lines", "_law_wide", "_law_found", "_law_line", "_law_at"]

theorem dueL_len {ls : List (List Nat)} {w : Nat} (hw : 1 ≤ w) (h : ∀ l ∈ ls, l.length ≤ 100) : (dueL ls w).length ≤ 101 * ls.length := by
  induction ls with
  | nil => exact Nat.le_refl _
  | cons l ls ih =>
    have e : dueL (l :: ls) w = cutsT l w ++ dueL ls w := rfl
    rw [e, List.length_append, List.length_cons]
    have h1 := cutsT_len (l := l) hw
    have h2 := h l List.mem_cons_self
    have h3 := ih fun m hm => h m (List.mem_cons_of_mem _ hm)
    omega
section
variable {c : Ctx}
theorem rd__law_rows : RD N__law_rows (t__law_rows c) (sp__law_rows c) := by
  rintro vs H Q E ⟨p, ls, w, F, L, rfl, hp, hn, hl, hw1, hw2, W, kk⟩
  unfold t__law_rows
  walk_at "r"
  refine n_lstF W (sz rfl) fun D F1 H1 e1 h1 W1 => ?_
  walk_at "r"
  refine x_ilist' (W1.gr.sqL ((Gr.of e1).sqL hp)) ?_
  refine x_forOk (F := F1) (ItOk.list ((Gr.of e1).sqL hp)) (fun i σ H' => ∃ z3 z4 D F', σ = [some (.ref p), some (.int (w : Nat)), some (.ref D), z3, z4] ∧ Same F1 F' ∧ F' D = some (.lst (SV (dueL (ls.take i) w))) ∧ Hold F' L H')
    (fun i σ H' _ ⟨_, _, _, F', _, s, _, W'⟩ => (Gr.of s).trans W'.gr) ⟨_, _, D, F1, rfl, Same.refl F1, h1, W1⟩ ?_ ?_
  · rintro i σ H2 hi ⟨z3, z4, D2, F2, rfl, s2, hD, W2⟩
    have hi' : i < ls.length := by simpa using hi
    have ev : (SV ls).getD i .non = .str (T (ls.getD i [])) := by
      rw [List.getD_eq_getElem?_getD, List.getElem?_map, List.getElem?_eq_getElem hi', List.getD_eq_getElem?_getD, List.getElem?_eq_getElem hi']; rfl
    have et := take_snoc (d := ([] : List Nat)) hi'
    obtain ⟨hl1, hl2⟩ := hl _ (getD_mem (d := ([] : List Nat)) hi')
    rw [ev]
    generalize ls.getD i [] = l at et hl1 hl2
    walk_at "r"
    refine x_irng3 ?_
    walk_at "r"
    refine l_lenX (by omega) ?_
    walk_at "r"
    rw [show (max (1 : Int) (l.length : Int)) = ((max 1 l.length : Nat) : Int) by omega]
    refine ⟨_, _, _, _, rfl, rgC_up (m := max 1 l.length) (by omega) (by omega) (by omega) hw2, ?_⟩
    have hdl := dueL_len (ls := ls.take i) (w := w) (by omega) fun m hm => (hl m (List.mem_of_mem_take hm)).1
    rw [List.length_take] at hdl
    have hcl := cutsT_len (l := l) (w := w) (by omega)
    refine x_lcOk (F := F2) ItOk.rngC W2 (by show nRows l.length w ≤ 100000; have := nRows_le (k := l.length) (w := w) (by omega); omega) (fun j v _ => v = .str (T (cutT l w j))) (fun _ _ _ _ _ h => h) (fun d j F' H' QQ hj s W' kq => ?_) gm_name (fun D3 ys F3 H3 e3 hlen hv W3 => ?_)
    · refine ⟨wipe1, ?_⟩
      have ej : (0 : Int) + (j : Int) * (w : Int) = ((j * w : Nat) : Int) := by rw [Int.zero_add, Int.natCast_mul]
      rw [ej]
      walk_at "r"
      refine l_slX (by omega) ?_
      rw [cutL_mid, Nat.add_sub_cancel_left]
      refine x_tystr (x_cons (x_c (x_nil ⟨_, _, rfl, rfl, ?_, ?_⟩)))
      · rw [T_len, List.length_take, List.length_drop]; exact szl (by omega)
      · rw [rstrip_eq, rstripL_id fun n hn => hl2 n (List.mem_of_mem_drop (List.mem_of_mem_take hn))]
        exact kq _ F' H' (Same.refl F') W' rfl
    · have ey : ys = SV (cutsT l w) := by
        have hlen' : ys.length = nRows l.length w := hlen
        have hv' : ∀ j, j < nRows l.length w → ys.getD j .non = .str (T (cutT l w j)) := hv
        refine List.ext_getElem? fun j => ?_
        by_cases hj : j < nRows l.length w
        · have a1 := hv' j hj
          rw [List.getD_eq_getElem?_getD, List.getElem?_eq_getElem (by omega)] at a1
          rw [List.getElem?_eq_getElem (by omega), List.getElem?_map]
          unfold cutsT
          rw [List.getElem?_map, List.getElem?_range hj]
          exact congrArg some a1
        · rw [List.getElem?_eq_none (by omega), List.getElem?_eq_none (by rw [List.length_map]; unfold cutsT; rw [List.length_map, List.length_range]; omega)]
      rw [ey] at W3
      refine n_addF W3 (W3.old _ _ (e3 _ _ hD)) W3.get0 (by rw [List.length_map, List.length_map]; exact szl (by omega)) fun D4 F4 H4 e4 h4 W4 => ?_
      walk_at "r"
      refine ⟨_, _, D4, F4, rfl, s2.trans (e3.trans e4), ?_, W4.drop⟩
      rw [h4, et, dueL_snoc]
      unfold SV
      rw [List.map_append]
  · rintro σ H2 ⟨z3, z4, D2, F2, rfl, s2, hD, W2⟩
    walk_at "r"
    refine kk D2 F2 H2 (e1.trans s2) ?_ W2
    rw [hD, List.length_map, List.take_length]
theorem kept_sv {s : Addr} {C : ScrC} {S : Scr} {F H : Hp} {L : List (Addr × HO)} {Q : VK} {E : XK} (A : ScrAt c F C S) (W : Hold F (scrL c s C S L) H) (kk : ∀ (D : Addr) F' H', Same F F' → F' D = some (.lst (SV (S.past.map rowL))) → Hold F' (scrL c s C S L) H' → Q (.ref D) H') : sp_Screen_kept c [.ref s] H Q E :=
  ⟨s, C, S, F, L, rfl, A, W, fun D ys F' H' s1 p W1 => kk D _ H' (s1.trans W1.freezeS) (by rw [upd_same, p]; unfold SV; rw [List.map_map]; rfl) W1.freeze⟩
theorem texts_sv {s : Addr} {C : ScrC} {S : Scr} {F H : Hp} {L : List (Addr × HO)} {Q : VK} {E : XK} (A : ScrAt c F C S) (W : Hold F (scrL c s C S L) H) (kk : ∀ (D : Addr) F' H', Same F F' → F' D = some (.lst (SV (S.rows.map rowL))) → Hold F' (scrL c s C S L) H' → Q (.ref D) H') : sp_Screen_texts c [.ref s] H Q E :=
  ⟨s, C, S, F, L, rfl, A, W, fun D ys F' H' s1 p W1 => kk D _ H' (s1.trans W1.freezeS) (by rw [upd_same, p]; unfold SV; rw [List.map_map]; rfl) W1.freeze⟩
def sp__law_right (c : Ctx) : Sp := fun vs H Q _ => ∃ (s : Addr) (C : ScrC) (S : Scr) (ls : List (List Nat)) (l : List Nat) (p : Addr) (hv : V) (F : Hp) (L : List (Addr × HO)), vs = [.ref s, .ref p, .int (S.wide : Nat), hv] ∧ ScrAt c F C S ∧ Typed S ls l ∧ SqL c.K F p (SV (ls ++ [l])) ∧ (ls ++ [l]).length ≤ 100 ∧ (∀ m ∈ ls ++ [l], m.length ≤ 100 ∧ ∀ n ∈ m, n < 1114112) ∧ Hold F (scrL c s C S L) H ∧
  ∀ F' H', Same F F' → Hold F' (scrL c s C S L) H' → Q (.bl true) H'
def t__law_right (c : Ctx) (E : XK) : TS :=
  (tSeq (tAsg (tF (sp__law_rows c) E0 (tCons (tVar 1) (tCons (tVar 2) tNil))) (gName 4))
  (tSeq (tIfS (tTest (tOp (uNe c.K) (tOp (uAdd c.K) (tO c.cScreen "kept" (sp_Screen_kept c) E0 (tVar 0) tNil) (tSl (uSl c.K) (tO c.cScreen "texts" (sp_Screen_texts c) E0 (tVar 0) tNil) tNoPart (tPart (tOp uSub (tCB (uLen c.K) (tCons (tVar 4) tNil)) (tCB (uLen c.K) (tCons (tO c.cScreen "kept" (sp_Screen_kept c) E0 (tVar 0) tNil) tNil)))))) (tVar 4))) (tRet (tC (.bl false))) tNext)
  (tSeq (tIfS (tTest (tOp (uNe c.K) (tLc (iList c.K (tSl (uSl c.K) (tO c.cScreen "texts" (sp_Screen_texts c) E0 (tVar 0) tNil) (tPart (tOp uSub (tCB (uLen c.K) (tCons (tVar 4) tNil)) (tCB (uLen c.K) (tCons (tO c.cScreen "kept" (sp_Screen_kept c) E0 (tVar 0) tNil) tNil)))) tNoPart)) (gName 5) (tTest (tOp (uNe c.K) (tVar 5) (tC (.str ⟨#[]⟩)))) (tVar 5) [5]) (tLst tNil))) (tRet (tC (.bl false))) tNext)
  (tSeq (tAsg (tOp (uIx c.K) (tVar 1) (tUn (rU fun i => .int (-i)) (tC (.int 1)))) (gName 6))
  (tSeq (tAsg (tAndV (tOp uGt (tCB (uLen c.K) (tCons (tVar 6) tNil)) (tC (.int 0))) (tOp (uEq c.K) (tOp uMod (tCB (uLen c.K) (tCons (tVar 6) tNil)) (tVar 2)) (tC (.int 0)))) (gName 7))
  (tSeq (tAsg (tIf (tB (tVar 7)) (tOp uSub (tVar 2) (tC (.int 1))) (tOp uMod (tCB (uLen c.K) (tCons (tVar 6) tNil)) (tVar 2))) (gName 8))
  (tRet (tOp (uEq c.K) (tO c.cScreen "cursor" (sp_Screen_cursor c) E0 (tVar 0) tNil) (tTup (tCons (tOp uSub (tOp uSub (tCB (uLen c.K) (tCons (tVar 4) tNil)) (tCB (uLen c.K) (tCons (tO c.cScreen "kept" (sp_Screen_kept c) E0 (tVar 0) tNil) tNil))) (tC (.int 1))) (tCons (tVar 8) (tCons (tVar 7) tNil))))))))))))
abbrev N__law_right : List Str := ["_law_screen", "_law_lines", "_law_wide", "_law_high", "_law_due", "_law_text", "_law_last", "_law_is_full", "_law_column"]

theorem rd__law_right (R : FScreen c) : RD N__law_right (t__law_right c) (sp__law_right c) := by
  have cl := R.cl
  rintro vs H Q E ⟨s, C, S, ls, l, p, hv, F, L, rfl, A, Ty, hp, hn, hl, W, kk⟩
  have wf := A.wf
  have w1 := wf.w1
  have w2' := wf.w2
  have hrl := wf.rl
  have hrow := wf.row
  have LY := Ty.lay
  have hpl := Scr.lay_past LY
  have hdl : dueL (ls ++ [l]) S.wide = S.past.map rowL ++ (S.rows.map rowL).take (S.row + 1) := by
    rw [← rowL_lines Ty.plain, ← LY.rows, List.map_append, List.map_take]
  have hdn : (dueL (ls ++ [l]) S.wide).length = S.past.length + (S.row + 1) := by
    rw [hdl, List.length_append, List.length_map, List.length_take, List.length_map]; omega
  have hpm : S.past.length ≤ 200 := Nat.le_trans wf.pl wf.m
  have hh2 := wf.h2
  unfold t__law_right
  walk_at "r"
  refine ⟨p, ls ++ [l], S.wide, F, _, rfl, hp, hn, fun m hm => ⟨(hl m hm).1, Ty.plain m hm⟩, w1, w2', W, fun r F1 H1 e1 h1 W1 => ?_⟩
  walk_at "r"
  refine kept_sv (A.gr (Gr.of e1)) W1 fun D2 F2 H2 e2 h2 W2 => ?_
  walk_at "r"
  refine texts_sv (A.gr (Gr.of (e1.trans e2))) W2 fun D3 F3 H3 e3 h3 W3 => ?_
  walk_at "r"
  refine l_lenL (sq_of (W3.old _ _ ((e2.trans e3) _ _ h1))) ?_
  rw [List.length_map, hdn]
  walk_at "r"
  refine kept_sv (A.gr (Gr.of (e1.trans (e2.trans e3)))) W3 fun D4 F4 H4 e4 h4 W4 => ?_
  walk_at "r"
  refine l_lenL (sq_of (W4.old _ _ h4)) ?_
  rw [List.length_map, List.length_map]
  walk_at "r"
  have ed : (((S.past.length + (S.row + 1) : Nat) : Int) - ((S.past.length : Nat) : Int)) = ((S.row + 1 : Nat) : Int) := by omega
  rw [ed]
  refine n_toS W4 (W4.old _ _ (e4 _ _ h3)) fun D5 F5 H5 e5 h5 W5 => ?_
  refine n_addS W5 (W5.old _ _ ((e3.trans (e4.trans e5)) _ _ h2)) (W5.old _ _ h5) (by rw [List.length_map, List.length_take, List.length_map]; omega) fun D6 F6 H6 e6 h6 W6 => ?_
  walk_at "r"
  have s16 : Same F1 F6 := e2.trans (e3.trans (e4.trans (e5.trans e6)))
  refine l_neSV (sq_of (W6.old _ _ h6)) (sq_of (W6.old _ _ (s16 _ _ h1))) hdl.symm ?_ ?_
  · intro m hm n hn'
    rw [← hdl] at hm
    obtain ⟨m2, hm2, hm3⟩ := List.mem_flatten.mp hm
    obtain ⟨m3, hm4, rfl⟩ := List.mem_map.mp hm2
    obtain ⟨j, _, rfl⟩ := List.mem_map.mp hm3
    exact (hl m3 hm4).2 n (cutT_mem hn')
  walk_at "r"
  refine wF rfl ?_
  walk_at "r"
  have A6 := A.gr (Gr.of (e1.trans s16))
  have h16 := s16 _ _ h1
  refine texts_sv A6 W6 fun D7 F7 H7 e7 h7 W7 => ?_
  walk_at "r"
  refine l_lenL (sq_of (W7.old _ _ (e7 _ _ h16))) ?_
  rw [List.length_map, hdn]
  walk_at "r"
  refine kept_sv (A6.gr (Gr.of e7)) W7 fun D8 F8 H8 e8 h8 W8 => ?_
  walk_at "r"
  refine l_lenL (sq_of (W8.old _ _ h8)) ?_
  rw [List.length_map, List.length_map]
  walk_at "r"
  rw [ed]
  refine n_fromS W8 (W8.old _ _ (e8 _ _ h7)) fun D9 F9 H9 e9 h9 W9 => ?_
  refine x_ilist' (sq_of (W9.old _ _ h9)) ?_
  have hbl : ∀ i, i < (SV ((S.rows.map rowL).drop (S.row + 1))).length → (SV ((S.rows.map rowL).drop (S.row + 1))).getD i .non = .str (T []) := fun i hi => by
    rw [List.length_map, List.length_drop, List.length_map, hrl] at hi
    have e := LY.rest (S.row + 1 + i) (by omega) (by omega)
    have hi2 : S.row + 1 + i < S.rows.length := by omega
    have e2 : S.rows[S.row + 1 + i] = blankRow S.wide := by
      unfold Scr.rowAt at e
      rw [List.getD_eq_getElem?_getD, List.getElem?_eq_getElem hi2] at e
      exact e
    rw [List.getD_eq_getElem?_getD, List.getElem?_map, List.getElem?_drop, List.getElem?_map, List.getElem?_eq_getElem hi2, e2]
    show V.str (T (rowL (blankRow S.wide))) = _
    rw [rowL_empty]
  refine x_lcT (F := F9) (ItOk.list (sq_of h9)) W9 (by rw [List.length_map, List.length_drop, List.length_map]; omega) (fun i ys _ => ys = []) (fun _ _ _ _ _ h => h) rfl (fun d i ys F' H' QQ QN hi s' hP W' kq kn => ?_) gm_name (fun D10 ys F10 H10 e10 hP W10 => ?_)
  · rw [hbl i hi]
    refine ⟨wipe1, ?_⟩
    walk_at "r"
    refine wF rfl ?_
    exact kn F' H' (Same.refl F') W' hP
  subst hP
  walk_at "r"
  refine n_lstF W10 (sz rfl) fun D11 F11 H11 e11 h11 W11 => ?_
  refine l_neD (d := .list []) (e := .list []) (.lst (sq_of W11.get0) .nil) (.lst (sq_of (W11.old _ _ h11)) .nil) rfl rfl ?_
  walk_at "r"
  refine wF rfl ?_
  have W12 := W11.drop
  have s611 : Same F6 F11 := e7.trans (e8.trans (e9.trans (e10.trans e11)))
  have s111 : Same F1 F11 := s16.trans s611
  have hp11 := (Gr.of (e1.trans s111)).sqL hp
  have A11 := A.gr (Gr.of (e1.trans s111))
  have h111 := s111 _ _ h1
  have esv : SV (ls ++ [l]) = SV ls ++ [.str (T l)] := by unfold SV; rw [List.map_append]; rfl
  rw [esv] at hp11
  have hll : l.length ≤ 100 := (hl l (by simp)).1
  walk_at "r"
  refine l_ixL (W12.gr.sqL hp11) atI_last ?_
  walk_at "r"
  refine l_lenX (by omega) ?_
  walk_at "r"
  -- how it ends
  have hspot := Ty.spot
  have fin : ∀ (k : Nat) (b : Bool) σ, σ[0]? = some (some (.ref s)) → σ[4]? = some (some (.ref r)) → σ[8]? = some (some (.int (k : Nat))) → σ[7]? = some (some (.bl b)) → S.column = k → S.full = b →
      tRet (tOp (uEq c.K) (tO c.cScreen "cursor" (sp_Screen_cursor c) E0 (tVar 0) tNil) (tTup (tCons (tOp uSub (tOp uSub (tCB (uLen c.K) (tCons (tVar 4) tNil)) (tCB (uLen c.K) (tCons (tO c.cScreen "kept" (sp_Screen_kept c) E0 (tVar 0) tNil) tNil))) (tC (.int 1))) (tCons (tVar 8) (tCons (tVar 7) tNil))))) ⟨fun x H' => Q V.non H', Q, fun _ _ => False, fun _ _ => False⟩ σ H11 := by
    intro k b σ g0 g4 g8 g7 ek eb
    refine x_ret (x_op (x_o (x_var g0 (x_ao W12.get0 (by kernel_rfl) (x_nil ?_)))))
    refine ⟨s, C, S, F11, L, rfl, A11, W12, fun v F12 H12 e12 h12 W13 => ?_⟩
    refine x_tup (x_cons (x_op (x_op (x_cb (x_cons (x_var g4 (x_nil ?_)))))))
    refine l_lenL (sq_of (W13.old _ _ (e12 _ _ h111))) ?_
    rw [List.length_map, hdn]
    refine x_cb (x_cons (x_o (x_var g0 (x_ao W13.get0 (by kernel_rfl) (x_nil ?_)))))
    refine kept_sv (A11.gr (Gr.of e12)) W13 fun D13 F13 H13 e13 h13 W14 => ?_
    refine x_nil (l_lenL (sq_of (W14.old _ _ h13)) ?_)
    rw [List.length_map, List.length_map]
    refine l_subI (x_c (l_subI ?_))
    rw [ed, show ((S.row + 1 : Nat) : Int) - 1 = ((S.row : Nat) : Int) by omega]
    refine x_cons (x_var g8 (x_cons (x_var g7 (x_nil ?_))))
    refine n_tupF W14 (sz rfl) fun q F14 H14 e14 h14 W15 => ?_
    have hq : Dp c.K F14 (.ref q) S.cursorD := by
      unfold Scr.cursorD
      rw [ek, eb]
      exact .tup (st_of h14) (.cons (.int _) (.cons (.int _) (.cons (.bl _) .nil)))
    have shC := cursorD_sh S
    refine l_eqD (W15.gr.dp ((Gr.of (e13.trans e14)).dp h12)) (W15.gr.dp hq) (shC.shaped (by decide)) (shC.shaped (by decide)) ?_
    rw [shC.eqv]
    exact kk F14 H14 (e1.trans (s111.trans (e12.trans (e13.trans e14)))) W15
  have part : ∀ σ, σ[0]? = some (some (.ref s)) → σ[4]? = some (some (.ref r)) → σ[6]? = some (some (.str (T l))) → σ[2]? = some (some (.int (S.wide : Nat))) → σ[7]? = some (some (.bl false)) → 9 = σ.length → ¬ isFull l.length S.wide →
      tSeq (tAsg (tIf (tB (tVar 7)) (tOp uSub (tVar 2) (tC (.int 1))) (tOp uMod (tCB (uLen c.K) (tCons (tVar 6) tNil)) (tVar 2))) (gName 8))
        (tRet (tOp (uEq c.K) (tO c.cScreen "cursor" (sp_Screen_cursor c) E0 (tVar 0) tNil) (tTup (tCons (tOp uSub (tOp uSub (tCB (uLen c.K) (tCons (tVar 4) tNil)) (tCB (uLen c.K) (tCons (tO c.cScreen "kept" (sp_Screen_kept c) E0 (tVar 0) tNil) tNil))) (tC (.int 1))) (tCons (tVar 8) (tCons (tVar 7) tNil)))))) ⟨fun x H' => Q V.non H', Q, fun _ _ => False, fun _ _ => False⟩ σ H11 := by
    intro σ g0 g4 g6 g2 g7 gl hf
    rw [if_neg hf] at hspot
    refine x_seq (x_asg (x_if (x_B (x_var g7 (x_bl (wF rfl ?_))))))
    refine x_op (x_cb (x_cons (x_var g6 (x_nil (l_lenX (by omega) (x_var g2 (g_modNN (by omega) (x_name ?_))))))))
    refine fin (l.length % S.wide) false _ ?_ ?_ ?_ ?_ hspot.2 hspot.1
    · rw [List.getElem?_set_ne (by decide)]; exact g0
    · rw [List.getElem?_set_ne (by decide)]; exact g4
    · rw [List.getElem?_set_self (by omega)]
    · rw [List.getElem?_set_ne (by decide)]; exact g7
  by_cases h0 : 0 < l.length
  · refine wT (decide_eq_true (by omega)) ?_
    walk_at "r"
    refine l_lenX (by omega) ?_
    walk_at "r"
    refine g_modNN (by omega) ?_
    walk_at "r"
    by_cases hf : l.length % S.wide = 0
    · have hF : isFull l.length S.wide := ⟨h0, hf⟩
      rw [if_pos hF] at hspot
      refine wT (decide_eq_true hf) ?_
      refine x_op (x_var rfl (x_c (l_subI (x_name ?_))))
      rw [show ((S.wide : Nat) : Int) - 1 = ((S.wide - 1 : Nat) : Int) by omega]
      refine fin (S.wide - 1) true _ rfl rfl rfl ?_ hspot.2 hspot.1
      show some (some (V.bl (decide (l.length % S.wide = OfNat.ofNat 0)))) = _
      rw [decide_eq_true (show l.length % S.wide = OfNat.ofNat 0 from hf)]
    · have hF : ¬ isFull l.length S.wide := fun z => hf z.2
      rw [if_neg hF] at hspot
      refine wF (decide_eq_false hf) ?_
      refine x_op (x_cb (x_cons (x_var rfl (x_nil (l_lenX (by omega) (x_var rfl (g_modNN (by omega) (x_name ?_))))))))
      refine fin (l.length % S.wide) false _ rfl rfl rfl ?_ hspot.2 hspot.1
      show some (some (V.bl (decide (l.length % S.wide = OfNat.ofNat 0)))) = _
      rw [decide_eq_false (show ¬ l.length % S.wide = OfNat.ofNat 0 from hf)]
  · refine wF (decide_eq_false (by omega)) ?_
    refine x_name ?_
    exact part _ rfl rfl rfl rfl rfl rfl fun z => h0 z.1
end
end Ss
/-! ## lines typed 7: a text of plain signs and line ends -/
namespace Ss
open PySem PySem.Spec PyProof.Rows L2
def tyStep (a : List (List Nat) × List Nat) (n : Nat) : List (List Nat) × List Nat := if n = 10 then (a.1 ++ [a.2], []) else (a.1, a.2 ++ [n])
def tyAll (a : List (List Nat) × List Nat) (x : List Nat) : List (List Nat) × List Nat := x.foldl tyStep a
def tySize (a : List (List Nat) × List Nat) : Nat := ((a.1 ++ [a.2]).map fun l : List Nat => l.length + 1).sum
def tyTk (n : Nat) : Tk := if n = 10 then .fin else .sign n
theorem tySize_step (a : List (List Nat) × List Nat) (n : Nat) : tySize (tyStep a n) = tySize a + 1 := by
  obtain ⟨ls, l⟩ := a
  unfold tyStep tySize
  by_cases h : n = 10
  · rw [if_pos h]
    show (((ls ++ [l]) ++ [([] : List Nat)]).map fun l : List Nat => l.length + 1).sum = _
    rw [List.map_append, List.sum_append]; rfl
  · rw [if_neg h]
    show ((ls ++ [l ++ [n]]).map fun l : List Nat => l.length + 1).sum = ((ls ++ [l]).map fun l : List Nat => l.length + 1).sum + 1
    rw [List.map_append, List.map_append, List.sum_append, List.sum_append]
    show _ + ((l ++ [n]).length + 1 + 0) = _ + (l.length + 1 + 0) + 1
    rw [List.length_append, List.length_singleton]; omega
theorem allRows_size {ls : List (List Nat)} {w : Nat} (hw : 1 ≤ w) : (allRows ls w).length ≤ (ls.map fun l : List Nat => l.length + 1).sum := by
  induction ls with
  | nil => exact Nat.le_refl _
  | cons l ls ih =>
    show (lineRows l w ++ allRows ls w).length ≤ (l.length + 1) + (ls.map fun l : List Nat => l.length + 1).sum
    rw [List.length_append, lineRows_len]
    have := nRows_le (k := l.length) hw
    omega
def plainSign (n : Nat) : Prop := n = 10 ∨ (sgOk n ∧ n ≠ 32 ∧ n ≠ 94)
namespace Scr
theorem typed_act {S : Scr} {ls : List (List Nat)} {l : List Nat} {n : Nat} (A : Typed S ls l) (hn : plainSign n) (room : tySize (ls, l) + 1 ≤ S.most) :
    Typed (S.act (tyTk n)) (tyStep (ls, l) n).1 (tyStep (ls, l) n).2 ∧ (S.act (tyTk n)).wide = S.wide ∧ (S.act (tyTk n)).most = S.most ∧ (S.act (tyTk n)).high = S.high ∧ (S.act (tyTk n)).rd = S.rd := by
  have w1 : 1 ≤ S.wide := by have := A.lay.wf.w1; omega
  have room' : ((ls ++ [l]).map fun l : List Nat => l.length + 1).sum + 1 ≤ S.most := room
  unfold tyTk tyStep
  by_cases h : n = 10
  · rw [if_pos h, if_pos h]
    exact typed_fin A (Nat.le_trans (allRows_size (ls := ls ++ [l]) w1) (by omega))
  · rw [if_neg h, if_neg h]
    obtain ⟨h1, h2, _⟩ := hn.resolve_left h
    refine typed_put A h1 h2 ?_
    show (allRows (ls ++ [l ++ [n]]) S.wide).length ≤ S.most
    have z := allRows_size (ls := ls ++ [l ++ [n]]) w1
    have y := tySize_step (ls, l) n
    unfold tyStep at y
    rw [if_neg h] at y
    have y' : ((ls ++ [l ++ [n]]).map fun l : List Nat => l.length + 1).sum = ((ls ++ [l]).map fun l : List Nat => l.length + 1).sum + 1 := y
    omega
theorem typed_acts : ∀ (x : List Nat) {S : Scr} {a : List (List Nat) × List Nat}, Typed S a.1 a.2 → (∀ n ∈ x, plainSign n) → tySize a + x.length ≤ S.most →
    Typed (S.acts (x.map tyTk)) (tyAll a x).1 (tyAll a x).2 ∧ (S.acts (x.map tyTk)).wide = S.wide ∧ (S.acts (x.map tyTk)).most = S.most ∧ (S.acts (x.map tyTk)).high = S.high ∧ (S.acts (x.map tyTk)).rd = S.rd
  | [], _, _, A, _, _ => ⟨A, rfl, rfl, rfl, rfl⟩
  | n :: x, S, a, A, hx, room => by
    rw [List.length_cons] at room
    obtain ⟨B, b1, b2, b3, b4⟩ := typed_act A (hx n List.mem_cons_self) (by show tySize a + 1 ≤ S.most; omega)
    obtain ⟨C, c1, c2, c3, c4⟩ := typed_acts x (a := tyStep a n) B (fun m hm => hx m (List.mem_cons_of_mem _ hm)) (by rw [b2, tySize_step]; omega)
    exact ⟨C, c1.trans b1, c2.trans b2, c3.trans b3, c4.trans b4⟩
theorem typed_new {w h m : Nat} (hw : 2 ≤ w ∧ w ≤ 60) (hh : 2 ≤ h ∧ h ≤ 40) (hm : m ≤ 200) : Typed (Scr.new w h m) [] [] := by
  refine ⟨⟨new_wf hw hh hm, new_ok hh.1, rfl, rfl, rfl, ?_, ?_⟩, ?_, ?_⟩
  · show [] ++ (List.replicate h (blankRow w)).take 1 = allRows ([] ++ [[]]) w
    rw [allRows_snoc, lineRows_nil, List.take_replicate, show min 1 h = 1 by omega]; rfl
  · intro i h1 h2
    show (List.replicate h (blankRow w)).getD i ⟨[], false⟩ = blankRow w
    have h2' : i < h := h2
    rw [List.getD_eq_getElem?_getD, List.getElem?_replicate, if_pos h2']; rfl
  · rw [if_neg fun z => absurd z.1 (Nat.lt_irrefl 0)]
    exact ⟨rfl, (Nat.zero_mod _).symm⟩
  · intro m hm n hn
    rw [List.mem_singleton.mp hm] at hn; cases hn
theorem typed_fed {S : Scr} {a : List (List Nat) × List Nat} {x : List Nat} (A : Typed S a.1 a.2) (hp : S.rd.pre = .no) (hx : ∀ n ∈ x, plainSign n) (room : tySize a + x.length ≤ S.most) :
    Typed (S.fed x) (tyAll a x).1 (tyAll a x).2 ∧ (S.fed x).wide = S.wide ∧ (S.fed x).most = S.most ∧ (S.fed x).high = S.high ∧ (S.fed x).rd = S.rd := by
  have e : lawText (x.map tyTk) = x := by
    unfold lawText
    rw [List.flatMap_map]
    have : ∀ y : List Nat, (∀ n ∈ y, plainSign n) → y.flatMap (fun n => (tyTk n).text) = y := by
      intro y
      induction y with
      | nil => intro _; rfl
      | cons n y ih =>
        intro h
        rw [List.flatMap_cons, ih fun m hm => h m (List.mem_cons_of_mem _ hm)]
        have hn := h n List.mem_cons_self
        unfold tyTk
        by_cases h10 : n = 10
        · rw [if_pos h10, h10]; rfl
        · rw [if_neg h10]
          show (if n = 94 then [94, 94] else [n]) ++ y = n :: y
          rw [if_neg (hn.resolve_left h10).2.2]; rfl
    exact this x hx
  have g : ∀ t ∈ x.map tyTk, t.Good := fun t ht => by
    obtain ⟨n, hn, rfl⟩ := List.mem_map.mp ht
    unfold tyTk
    by_cases h10 : n = 10
    · rw [if_pos h10]; trivial
    · rw [if_neg h10]
      exact ((hx n hn).resolve_left h10).1
  have z := fed_good (S := S) hp g
  rw [e] at z
  rw [z]
  exact typed_acts x A hx room
end Scr
/-- lines joined by line ends -/
theorem tyAll_app (a : List (List Nat) × List Nat) (x y : List Nat) : tyAll a (x ++ y) = tyAll (tyAll a x) y := List.foldl_append ..
theorem tyAll_line {m : List Nat} (h : ∀ n ∈ m, n ≠ 10) : ∀ (a : List (List Nat) × List Nat), tyAll a m = (a.1, a.2 ++ m) := by
  induction m with
  | nil => intro a; rw [List.append_nil]; rfl
  | cons n m ih =>
    intro a
    show tyAll (tyStep a n) m = _
    rw [ih fun k hk => h k (List.mem_cons_of_mem _ hk)]
    unfold tyStep
    rw [if_neg (h n List.mem_cons_self), List.append_assoc]; rfl
theorem tyAll_join : ∀ (ls : List (List Nat)) (l : List Nat) (a : List (List Nat)), (∀ m ∈ ls ++ [l], ∀ n ∈ m, n ≠ 10) → tyAll (a, []) (TL.joinL [10] (ls ++ [l])) = (a ++ ls, l)
  | [], l, a, h => by
    show tyAll (a, []) l = _
    rw [tyAll_line (h l (by simp)), List.append_nil]; rfl
  | m :: ls, l, a, h => by
    have e : TL.joinL [10] (m :: ls ++ [l]) = m ++ (10 :: TL.joinL [10] (ls ++ [l])) := by
      cases ls with
      | nil => rfl
      | cons k ls => rfl
    rw [e, tyAll_app, tyAll_line (h m (by simp))]
    show tyAll (tyStep (a, [] ++ m) 10) _ = _
    have e2 : tyStep (a, [] ++ m) 10 = (a ++ [m], []) := by unfold tyStep; rw [if_pos rfl]; rfl
    rw [e2, tyAll_join ls l (a ++ [m]) fun k hk => h k (List.mem_cons_of_mem _ hk), List.append_assoc]; rfl
end Ss
/-! ## law k41 -/
namespace Ss
open PySem PySem.Spec PyProof.Rows L2
open Ss in
local macro_rules | `(tactic| walk_at "fg") => `(tactic| first | with_reducible exact fsScreen_g0 | with_reducible exact fsScreen_g1 | with_reducible exact fsScreen_g2 | with_reducible exact fsScreen_g3 | with_reducible exact fsScreen_g4 | with_reducible exact fsScreen_g5 | with_reducible exact fsScreen_g6 | with_reducible exact fsScreen_g7 | with_reducible exact fsScreen_g8 | with_reducible exact fsScreen_g9 | with_reducible exact fsScreen_g10 | with_reducible exact fsScreen_g11 | with_reducible exact fsScreen_g12 | with_reducible exact fsScreen_g13 | with_reducible exact fsRow_g0 | with_reducible exact fsRow_g1)
open Ss in
local macro_rules | `(tactic| walk_at "r") => `(tactic| repeat (first
  | with_reducible refine x_seq ?_ | with_reducible refine x_asg ?_ | with_reducible refine x_var rfl ?_ | with_reducible refine x_c ?_ | with_reducible refine x_op ?_ | with_reducible refine x_name ?_ | with_reducible refine x_gcons ?_ | with_reducible refine x_gnil ?_
  | with_reducible refine x_cons ?_ | with_reducible refine x_nil ?_ | with_reducible refine x_cb ?_ | with_reducible refine x_ifs ?_ | with_reducible refine x_test ?_ | with_reducible refine x_bl ?_
  | with_reducible refine g_addNN ?_ | with_reducible refine g_addNL ?_ | with_reducible refine g_addLN ?_ | with_reducible refine l_addI ?_ | with_reducible refine l_subI ?_ | with_reducible refine g_ltNL ?_ | with_reducible refine l_ltI ?_ | with_reducible refine l_leI ?_ | with_reducible refine l_gtI ?_ | with_reducible refine l_geI ?_ | with_reducible refine l_eqX ?_ | with_reducible refine l_neX ?_ | with_reducible refine g_eqNL ?_ | with_reducible refine l_eqII ?_ | with_reducible refine l_neII ?_ | with_reducible refine l_eq rfl ?_ | with_reducible refine l_ne rfl ?_
  | with_reducible refine x_fld ?_ | with_reducible refine x_ret ?_ | with_reducible refine x_drop ?_ | with_reducible refine x_next ?_ | with_reducible refine x_tup ?_ | with_reducible refine x_lst ?_ | with_reducible refine x_f ?_ | with_reducible refine x_o ?_ | with_reducible refine x_n ?_
  | with_reducible refine x_bm ?_ | with_reducible refine x_bm0 ?_ | with_reducible refine x_m1 ?_ | with_reducible refine x_m0 ?_ | with_reducible refine x_isstr ?_ | with_reducible refine x_tystr ?_ | with_reducible refine x_sl ?_ | with_reducible refine x_part ?_ | with_reducible refine x_part' ?_ | with_reducible refine x_nopart ?_
  | with_reducible refine x_sfld ?_ | with_reducible refine x_if ?_ | with_reducible refine x_isty ?_ | with_reducible refine x_chain ?_ | with_reducible refine x_andV ?_ | with_reducible refine x_orV ?_ | with_reducible refine x_notV ?_ | with_reducible refine x_B ?_ | with_reducible refine x_and ?_ | with_reducible refine x_or ?_ | with_reducible refine x_not ?_ | with_reducible refine x_tru ?_ | with_reducible refine x_yes ?_
  | with_reducible refine x_un ?_ | with_reducible refine x_neg ?_ | with_reducible refine x_par ?_ | with_reducible refine x_par' ?_ | with_reducible refine x_retN ?_ | with_reducible refine x_brk ?_ | with_reducible refine x_cont ?_ | with_reducible refine x_rz ?_
  | with_reducible refine l_leS ?_ | with_reducible refine l_ltS ?_ | with_reducible refine l_inX ?_ | with_reducible refine l_niX ?_ | with_reducible refine l_inS ?_ | with_reducible refine l_niS ?_ | with_reducible refine l_count ?_ | with_reducible refine l_ord ?_ | with_reducible refine l_max ?_ | with_reducible refine l_min ?_ | with_reducible refine l_intI ?_ | with_reducible refine l_intB ?_ | with_reducible refine l_is ?_ | with_reducible refine l_isn ?_
  | with_reducible refine g_modNL (by decide) ?_ | with_reducible refine g_divNL (by decide) (by decide) ?_ | with_reducible refine l_modI (by decide) ?_ | with_reducible refine x_for ?_ | with_reducible refine x_lc ?_ | with_reducible refine x_ilist ?_ | with_reducible refine x_itup ?_ | with_reducible refine x_istr ?_ | with_reducible refine x_istr' ?_ | with_reducible refine x_irng1 ?_ | with_reducible refine x_irng2 ?_
  | (with_reducible refine x_get (by first | assumption | exact Hold.get0 (by assumption) | exact Hold.get1 (by assumption)) (by assumption) (by assumption) (by walk_at "fg") ?_)
  | (with_reducible refine x_ao (by first | assumption | exact Hold.get0 (by assumption) | exact Hold.get1 (by assumption)) (by kernel_rfl) ?_)
  | with_reducible refine x_ienum ?_ | with_reducible refine x_izip ?_ | with_reducible refine x_chain3 ?_
  | (with_reducible refine x_par2 ?_)
  | (with_reducible refine x_par3 ?_) | (with_reducible refine x_par3' ?_)))
open Ss in
local macro_rules | `(tactic| walk_at "lit") => `(tactic| repeat (first
  | with_reducible exact lit_non | with_reducible exact lit_bl | with_reducible exact lit_int | with_reducible exact lit_str | with_reducible exact lit_neg | with_reducible exact lits_nil
  | with_reducible exact lit_num (num_var rfl) | with_reducible exact lit_var rfl (by assumption)
  | with_reducible refine lits_cons ?_ ?_ | with_reducible refine lit_tup ?_ (Nat.le_of_ble_eq_true rfl) | with_reducible refine lit_lst ?_ (Nat.le_of_ble_eq_true rfl) | with_reducible refine litL_lst ?_ (Nat.le_of_ble_eq_true rfl)))
def t_law (c : Ctx) (E : XK) : TS :=
  (tSeq (tFor (iRng1 (tCons (tCB uMax (tCons (tC (.int 1)) (tCons (tCB uMin (tCons (tC (.int 3)) (tCons (tCB (uLen c.K) (tCons (tVar 0) tNil)) tNil))) tNil))) tNil)) (gName 1) (tSeq (tAsg (tF (sp__law_drawn c) E0 (tCons (tF (sp__law_cell c) E0 (tCons (tVar 0) (tCons (tVar 1) tNil))) (tCons (tVar 1) tNil))) (gName 2))
  (tSeq (tAsg (tTup (tCons (tOp (uAdd c.K) (tC (.int 2)) (tOp uMod (tVar 2) (tC (.int 10)))) (tCons (tOp (uAdd c.K) (tC (.int 2)) (tOp uMod (tOp uDiv (tVar 2) (tC (.int 16))) (tC (.int 6)))) tNil))) (gName 3))
  (tSeq (tAsg (tLst tNil) (gName 4))
  (tSeq (tFor (iRng1 (tCons (tOp (uAdd c.K) (tC (.int 1)) (tOp uMod (tOp uDiv (tVar 2) (tC (.int 256))) (tC (.int 6)))) tNil)) (gName 5) (tSeq (tAsg (tF (sp__law_drawn c) E0 (tCons (tVar 2) (tCons (tVar 5) tNil))) (gName 6))
  (tDrop (tBM c.K "list" rAppend (tVar 4) (tCons (tM1 (u_join c.K) (tC (.str ⟨#[]⟩)) (tLc (iRng1 (tCons (tOp uMod (tOp uDiv (tVar 6) (tC (.int 8))) (tC (.int 25))) tNil)) (gName 7) tYes (tOp (uIx c.K) (tC (.str ⟨#[97, 98, 99, 100, 101, 102]⟩)) (tOp uMod (tOp (uAdd c.K) (tVar 6) (tVar 7)) (tC (.int 6)))) [7])) tNil)))))
  (tSeq (tAsg (tN c.cScreen (sp_Screen_init c) E0 (tCons (tOp (uIx c.K) (tVar 3) (tC (.int 0))) (tCons (tOp (uIx c.K) (tVar 3) (tC (.int 1))) (tCons (tC (.int 200)) tNil)))) (gName 8))
  (tSeq (tDrop (tO c.cScreen "feed" (sp_Screen_feed c) E0 (tVar 8) (tCons (tM1 (u_join c.K) (tC (.str ⟨#[10]⟩)) (tVar 4)) tNil)))
  (tSeq (tIfS (tNot (tB (tF (sp__law_right c) E0 (tCons (tVar 8) (tCons (tVar 4) (tCons (tOp (uIx c.K) (tVar 3) (tC (.int 0))) (tCons (tOp (uIx c.K) (tVar 3) (tC (.int 1))) tNil))))))) (tRet (tC (.bl false))) tNext)
  (tSeq (tAsg (tLc (iRng1 (tCons (tC (.int 5)) tNil)) (gName 5) tYes (tTup (tCons (tOp (uAdd c.K) (tC (.int 2)) (tOp uMod (tF (sp__law_drawn c) E0 (tCons (tVar 2) (tCons (tOp (uAdd c.K) (tC (.int 30)) (tVar 5)) tNil))) (tC (.int 20)))) (tCons (tOp (uAdd c.K) (tC (.int 2)) (tOp uMod (tF (sp__law_drawn c) E0 (tCons (tVar 2) (tCons (tOp (uAdd c.K) (tC (.int 40)) (tVar 5)) tNil))) (tC (.int 8)))) tNil))) [5]) (gName 9))
  (tFor (iEnum c.K (tCons (tOp (uAdd c.K) (tVar 9) (tLst (tCons (tVar 3) tNil))) tNil)) (gTup c.K 2 (gCons (gName 5) (gCons (gName 10) gNil))) (tSeq (tDrop (tF (sp_resize c) E0 (tCons (tVar 8) (tCons (tOp (uIx c.K) (tVar 10) (tC (.int 0))) (tCons (tOp (uIx c.K) (tVar 10) (tC (.int 1))) tNil)))))
  (tSeq (tIfS (tNot (tB (tF (sp__law_right c) E0 (tCons (tVar 8) (tCons (tVar 4) (tCons (tOp (uIx c.K) (tVar 10) (tC (.int 0))) (tCons (tOp (uIx c.K) (tVar 10) (tC (.int 1))) tNil))))))) (tRet (tC (.bl false))) tNext)
  (tIfS (tTest (tOp (uEq c.K) (tVar 5) (tC (.int 2)))) (tSeq (tDrop (tO c.cScreen "feed" (sp_Screen_feed c) E0 (tVar 8) (tCons (tC (.str ⟨#[120, 121]⟩)) tNil)))
  (tSeq (tAsg (tOp (uAdd c.K) (tSl (uSl c.K) (tVar 4) tNoPart (tPart (tUn (rU fun i => .int (-i)) (tC (.int 1))))) (tLst (tCons (tOp (uAdd c.K) (tOp (uIx c.K) (tVar 4) (tUn (rU fun i => .int (-i)) (tC (.int 1)))) (tC (.str ⟨#[120, 121]⟩))) tNil))) (gName 4))
  (tIfS (tNot (tB (tF (sp__law_right c) E0 (tCons (tVar 8) (tCons (tVar 4) (tCons (tOp (uIx c.K) (tVar 10) (tC (.int 0))) (tCons (tOp (uIx c.K) (tVar 10) (tC (.int 1))) tNil))))))) (tRet (tC (.bl false))) tNext))) tNext)))))))))))))
  (tRet (tC (.bl true))))
abbrev N_law : List Str := ["_law_script", "_law_k", "_law_more", "_law_first", "_law_lines", "_law_j", "_law_here", "_law_n", "_law_screen", "_law_sizes", "_law_size"]

def abc : List Nat := [97, 98, 99, 100, 101, 102]
noncomputable def lineOf (x : Nat) : List Nat := (List.range (x / 8 % 25)).map fun n => abc.getD ((x + n) % 6) 0
theorem abc_ok : ∀ i, i < 6 → sgOk (abc.getD i 0) ∧ abc.getD i 0 ≠ 32 ∧ abc.getD i 0 ≠ 94 ∧ abc.getD i 0 ≠ 10 ∧ abc.getD i 0 < 1114112 := by
  intro i hi
  rcases (show i = 0 ∨ i = 1 ∨ i = 2 ∨ i = 3 ∨ i = 4 ∨ i = 5 by omega) with rfl | rfl | rfl | rfl | rfl | rfl <;> exact ⟨⟨rfl, by decide⟩, by decide, by decide, by decide, by decide⟩
theorem lineOf_ok (x : Nat) : (lineOf x).length ≤ 24 ∧ ∀ n ∈ lineOf x, sgOk n ∧ n ≠ 32 ∧ n ≠ 94 ∧ n ≠ 10 ∧ n < 1114112 := by
  refine ⟨?_, fun n hn => ?_⟩
  · unfold lineOf; rw [List.length_map, List.length_range]; have : x / 8 % 25 < 25 := Nat.mod_lt _ (by decide); omega
  · obtain ⟨i, _, rfl⟩ := List.mem_map.mp hn
    exact abc_ok _ (Nat.mod_lt _ (by decide))
/-- lines as the law makes them -/
def LinesOk (ls : List (List Nat)) : Prop := ∀ m ∈ ls, m.length ≤ 26 ∧ ∀ n ∈ m, sgOk n ∧ n ≠ 32 ∧ n ≠ 94 ∧ n ≠ 10 ∧ n < 1114112
section
variable {c : Ctx}
theorem rd_law (R : FScreen c) : RD N_law (t_law c) (sp_law c) := by
  have cl := R.cl
  rintro vs H Q E ⟨a, ns, F, rfl, hs, hl, hb, tb, W, kk⟩
  unfold t_law
  walk_at "r"
  refine l_lenL (W.gr.sqL hs) ?_
  walk_at "r"
  refine x_irng1' (by omega) (by omega) ?_
  have hn4 : (max 1 (min 3 (((ns.map V.int).length : Nat) : Int))).toNat ≤ 3 := by omega
  refine x_forOk (F := F) ItOk.rng (fun i σ H' => ∃ o1 o2 o3 o4 o5 o6 o7 o8 o9 o10 F', σ = [some (.ref a), o1, o2, o3, o4, o5, o6, o7, o8, o9, o10] ∧ Gr F F' ∧ Hold F' [] H')
    (fun i σ H' _ ⟨_, _, _, _, _, _, _, _, _, _, F', _, g, W'⟩ => g.trans W'.gr) ⟨none, none, none, none, none, none, none, none, none, none, F, rfl, Gr.refl F, W⟩ ?_ ?_
  · rintro k σ H' hk ⟨o1, o2, o3, o4, o5, o6, o7, o8, o9, o10, F', rfl, g, W'⟩
    have ek : (0 : Int) + (k : Int) = (k : Int) := Int.zero_add _
    rw [ek]
    walk_at "r"
    refine ⟨a, ns, k, F', [], rfl, by omega, g.sqL hs, hl, W', fun F1 H1 e1 W1 => ?_⟩
    walk_at "r"
    refine ⟨_, k, rfl, cell_big hb (by omega), by omega, ?_⟩
    have hm := drawn_small (cellOf ns k) k
    generalize drawn (cellOf ns k) k = m at hm ⊢
    walk_at "r"
    generalize hw : OfNat.ofNat 2 + m % OfNat.ofNat 10 = w
    generalize hh : OfNat.ofNat 2 + m / OfNat.ofNat 16 % OfNat.ofNat 6 = h
    have hw' : 2 ≤ w ∧ w ≤ 60 := by
      have : m % 10 < 10 := Nat.mod_lt _ (by decide)
      rw [← hw]; show 2 ≤ 2 + m % 10 ∧ 2 + m % 10 ≤ 60; omega
    have hh' : 2 ≤ h ∧ h ≤ 40 := by
      have : m / 16 % 6 < 6 := Nat.mod_lt _ (by decide)
      rw [← hh]; show 2 ≤ 2 + m / 16 % 6 ∧ 2 + m / 16 % 6 ≤ 40; omega
    refine n_tupF W1 (sz rfl) fun pf F2 H2 e2 h2 W2 => ?_
    walk_at "r"
    refine n_lstL W2 (sz rfl) fun D H3 W3 => ?_
    walk_at "r"
    have h6 : m / 256 % 6 < 6 := Nat.mod_lt _ (by decide)
    refine x_irng1' (by omega) (by omega) ?_
    refine x_forOk (F := F2) ItOk.rng (fun i σ H' => ∃ o5 o6 o7 o8 o9 o10 LS F', σ = [some (.ref a), some (.int (k : Int)), some (.int (m : Nat)), some (.ref pf), some (.ref D), o5, o6, o7, o8, o9, o10] ∧ Same F2 F' ∧ LS.length = i ∧ (∀ q ∈ LS, q.length ≤ 24 ∧ ∀ n ∈ q, sgOk n ∧ n ≠ 32 ∧ n ≠ 94 ∧ n ≠ 10 ∧ n < 1114112) ∧ Hold F' [(D, .lst (SV LS))] H')
      (fun i σ H' _ ⟨_, _, _, _, _, _, _, F', _, s, _, _, W'⟩ => (Gr.of s).trans W'.gr) ⟨_, _, _, _, _, _, [], F2, rfl, Same.refl F2, rfl, fun _ h => (nomatch h), W3⟩ ?_ ?_
    · rintro i σ H4 hi ⟨o5, o6, o7, o8, o9, o10, LS, F4, rfl, s4, hLn, hLo, W4⟩
      have ei : (0 : Int) + (i : Int) = (i : Int) := Int.zero_add _
      rw [ei]
      walk_at "r"
      refine ⟨_, i, rfl, big_nat hm (by decide), by omega, ?_⟩
      have hx := drawn_small (m : Int) i
      generalize drawn (m : Int) i = x at hx ⊢
      walk_at "r"
      refine x_tylst (sq_of W4.get0) ?_
      walk_at "r"
      have hk25 : x / 8 % 25 < 25 := Nat.mod_lt _ (by decide)
      refine x_irng1' (by omega) (by omega) ?_
      refine x_lcOk (F := F4) ItOk.rng W4 (by omega) (fun j v _ => v = .str (T [abc.getD ((x + j) % 6) 0])) (fun _ _ _ _ _ h => h) (fun d j F' H' QQ hj s' W' kq => ?_) gm_name (fun D2 ys F5 H5 e5 hlen hv W5 => ?_)
      · refine ⟨wipe1, ?_⟩
        rw [show (0 : Int) + (j : Int) = (j : Int) from Int.zero_add _]
        walk_at "r"
        exact g_ixX (l := abc) (by decide) (Nat.mod_lt (x + j) (by decide)) (kq _ F' H' (Same.refl F') W' rfl)
      · have ey : ys = ((List.range (x / 8 % 25)).map fun j => [abc.getD ((x + j) % 6) 0]).map fun l => .str (T l) := by
          have hl' : ys.length = x / 8 % 25 := hlen
          refine List.ext_getElem? fun j => ?_
          by_cases hj : j < x / 8 % 25
          · have a1 := hv j hj
            rw [List.getD_eq_getElem?_getD, List.getElem?_eq_getElem (by omega)] at a1
            rw [List.getElem?_eq_getElem (by omega), List.getElem?_map, List.getElem?_map, List.getElem?_range hj]
            exact congrArg some a1
          · rw [List.getElem?_eq_none (by omega), List.getElem?_eq_none (by simp; omega)]
        rw [ey] at W5
        refine l_join 1 (.inl (sq_of W5.get0)) (fun l hl => ?_) (by simp; omega) ?_
        · obtain ⟨j, _, rfl⟩ := List.mem_map.mp hl
          exact Nat.le_refl _
        have ef : ((List.range (x / 8 % 25)).map fun j => [abc.getD ((x + j) % 6) 0]).flatten = lineOf x := by
          unfold lineOf
          induction List.range (x / 8 % 25) with
          | nil => rfl
          | cons z zs ih => rw [List.map_cons, List.flatten_cons, ih]; rfl
        rw [joinL_nil, ef]
        have W6 := W5.drop
        walk_at "r"
        refine x_push W6 (by rw [List.length_map, hLn]; omega) fun H7 W7 => ?_
        walk_at "r"
        refine ⟨_, _, _, _, _, _, LS ++ [lineOf x], F5, rfl, s4.trans e5, by rw [List.length_append, hLn]; rfl, fun q hq => ?_, ?_⟩
        · rcases List.mem_append.mp hq with hq | hq
          · exact hLo q hq
          · rw [List.mem_singleton.mp hq]; exact lineOf_ok x
        · unfold SV at W7 ⊢
          rw [List.map_append]; exact W7
    rintro σ H4 ⟨o5, o6, o7, o8, o9, o10, LS, F4, rfl, s4, hLn, hLo, W4⟩
    have hn6 : LS.length = 1 + m / 256 % 6 := by rw [hLn]; omega
    walk_at "r"
    refine l_ixT (W4.gr.sqT (st_of (s4 _ _ h2))) (by rfl) ?_
    walk_at "r"
    refine l_ixT (W4.gr.sqT (st_of (s4 _ _ h2))) (by rfl) ?_
    walk_at "r"
    refine x_newScreen (m := 200) rfl W4 hw' hh' (by decide) fun s C F5 H5 e5 A5 W5 => ?_
    walk_at "r"
    obtain ⟨ls, l, rfl⟩ : ∃ ls l, LS = ls ++ [l] := by
      have hne : LS ≠ [] := by intro z; rw [z] at hn6; simp at hn6; omega
      exact ⟨LS.dropLast, LS.getLast hne, (List.dropLast_concat_getLast hne).symm⟩
    have W5b := scrL_back W5
    have e6 := W5b.freezeS
    have W6 := W5b.freeze
    have hD6 : (upd F5 D (.lst (SV (ls ++ [l])))) D = some (.lst (SV (ls ++ [l]))) := upd_same
    generalize upd F5 D (.lst (SV (ls ++ [l]))) = F6 at e6 W6 hD6
    have A6 := A5.gr (Gr.of e6)
    have hjl := joinL_len (sep := [10]) (b := 24) fun q hq => (hLo q hq).1
    have hjl2 : (TL.joinL [10] (ls ++ [l])).length ≤ 150 := Nat.le_trans hjl (by rw [hn6]; show 25 * _ ≤ 150; omega)
    refine l_join 24 (.inl (sq_of (W6.old _ _ hD6))) (fun q hq => (hLo q hq).1) (by rw [hn6]; show 24 * _ + _ * 1 ≤ _; omega) ?_
    have hmemJ : ∀ (qs : List (List Nat)), (∀ q ∈ qs, ∀ n ∈ q, sgOk n ∧ n ≠ 32 ∧ n ≠ 94 ∧ n ≠ 10 ∧ n < 1114112) → ∀ n ∈ TL.joinL [10] qs, plainSign n := by
      intro qs
      induction qs with
      | nil => intro _ n hn; cases hn
      | cons q qs ih =>
        intro hq n hn
        cases qs with
        | nil => exact .inr ⟨(hq q (by simp) n hn).1, (hq q (by simp) n hn).2.1, (hq q (by simp) n hn).2.2.1⟩
        | cons q2 qs =>
          have e : TL.joinL [10] (q :: q2 :: qs) = q ++ (10 :: TL.joinL [10] (q2 :: qs)) := rfl
          rw [e] at hn
          rcases List.mem_append.mp hn with hn | hn
          · exact .inr ⟨(hq q (by simp) n hn).1, (hq q (by simp) n hn).2.1, (hq q (by simp) n hn).2.2.1⟩
          · rcases List.mem_cons.mp hn with rfl | hn
            · exact .inl rfl
            · exact ih (fun q' hq' => hq q' (List.mem_cons_of_mem _ hq')) n hn
    have hpl := hmemJ (ls ++ [l]) fun q hq => (hLo q hq).2
    have plsig : ∀ n, plainSign n → isSign n = true := fun n hn => by
      rcases hn with rfl | hn
      · rfl
      · exact hn.1.1
    have okJ : okText (.str (T (TL.joinL [10] (ls ++ [l])))) = true := okText_of (fun n hn => plsig n (hpl n hn)) (by omega)
    have TF := Scr.typed_fed (S := Scr.new w h 200) (a := ([], [])) (x := TL.joinL [10] (ls ++ [l])) (Scr.typed_new hw' hh' (by decide)) rfl hpl (by show 1 + _ ≤ 200; omega)
    rw [tyAll_join ls l [] fun q hq n hn => ((hLo q hq).2 n hn).2.2.2.1] at TF
    obtain ⟨Ty, tw, tm, th, tr⟩ := TF
    walk_at "r"
    refine sp_feed_ok A6 W6 okJ fun C7 F7 H7 e7 A7 W7 => ?_
    generalize (Scr.new w h 200).fed (TL.joinL [10] (ls ++ [l])) = S at Ty tw tm th tr A7 W7
    have Ty : Typed S ls l := Ty
    have tw : S.wide = w := tw
    have tm : S.most = 200 := tm
    have tp : S.rd.pre = .no := by rw [tr]; rfl
    have s47 : Same F4 F7 := e5.trans (e6.trans e7)
    walk_at "r"
    refine l_ixT (W7.gr.sqT (st_of ((s4.trans s47) _ _ h2))) (by rfl) ?_
    walk_at "r"
    refine l_ixT (W7.gr.sqT (st_of ((s4.trans s47) _ _ h2))) (by rfl) ?_
    walk_at "r"
    have hmem24 : ∀ q ∈ ls ++ [l], q.length ≤ 100 ∧ ∀ n ∈ q, n < 1114112 := fun q hq => ⟨Nat.le_trans (hLo q hq).1 (by decide), fun n hn => ((hLo q hq).2 n hn).2.2.2.2⟩
    refine ⟨s, C7, S, ls, l, D, _, F7, [], by rw [tw], A7, Ty, sq_of (e7 _ _ hD6), by rw [hn6]; omega, hmem24, W7, fun F8 H8 e8 W8 => ?_⟩
    walk_at "r"
    refine wF rfl ?_
    walk_at "r"
    have s48 : Same F4 F8 := s47.trans e8
    refine x_irng1' (by omega) (by omega) ?_
    refine x_lcOk (F := F8) ItOk.rng W8 (by decide) (fun j v F => ∃ (q : Addr) (x y : Nat), v = .ref q ∧ SqT c.K F q [.int (x : Nat), .int (y : Nat)] ∧ 2 ≤ x ∧ x ≤ 60 ∧ 2 ≤ y ∧ y ≤ 40) (fun _ _ _ _ g ⟨q, x, y, e, h, r⟩ => ⟨q, x, y, e, g.sqT h, r⟩) (fun d j F' H' QQ hj s' W' kq => ?_) gm_name (fun D9 zs F9 H9 e9 hlen9 hv9 W9 => ?_)
    · refine ⟨wipe1, ?_⟩
      have hj5 : j < 5 := hj
      rw [show (0 : Int) + (j : Int) = (j : Int) from Int.zero_add _]
      walk_at "r"
      refine ⟨_, OfNat.ofNat 30 + j, rfl, big_nat hm (by decide), by show 30 + j < 2 ^ 64; omega, ?_⟩
      generalize drawn (m : Int) (OfNat.ofNat 30 + j) = dx
      walk_at "r"
      refine ⟨_, OfNat.ofNat 40 + j, rfl, big_nat hm (by decide), by show 40 + j < 2 ^ 64; omega, ?_⟩
      generalize drawn (m : Int) (OfNat.ofNat 40 + j) = dy
      walk_at "r"
      refine n_tupF W' (sz rfl) fun q F4' H4' e4' h4' W4' => ?_
      have m1 : dx % 20 < 20 := Nat.mod_lt _ (by decide)
      have m2 : dy % 8 < 8 := Nat.mod_lt _ (by decide)
      exact kq _ F4' H4' e4' W4' ⟨q, _, _, rfl, st_of h4', by show 2 ≤ 2 + dx % 20; omega, by show 2 + dx % 20 ≤ 60; omega, by show 2 ≤ 2 + dy % 8; omega, by show 2 + dy % 8 ≤ 40; omega⟩
    have e10 := W9.freezeS
    have W10 := W9.freeze
    have hD10 : (upd F9 D9 (.lst zs)) D9 = some (.lst zs) := upd_same
    generalize upd F9 D9 (.lst zs) = F10 at e10 W10 hD10
    have hlen5 : zs.length = 5 := hlen9
    walk_at "r"
    refine n_lstF W10 (sz rfl) fun p11 F11 H11 e11 h11 W11 => ?_
    refine n_addF W11 (W11.old _ _ (e11 _ _ hD10)) (W11.old _ _ h11) (by rw [hlen5]; exact sz rfl) fun p12 F12 H12 e12 h12 W12 => ?_
    have s812 : Same F8 F12 := e9.trans (e10.trans (e11.trans e12))
    have hit : ∀ i, i < (zs ++ [V.ref pf]).length → ∃ (q : Addr) (x y : Nat), (zs ++ [V.ref pf]).getD i .non = .ref q ∧ SqT c.K F12 q [.int (x : Nat), .int (y : Nat)] ∧ 2 ≤ x ∧ x ≤ 60 ∧ 2 ≤ y ∧ y ≤ 40 := fun i hi => by
      rw [List.length_append, List.length_singleton, hlen5] at hi
      by_cases h5 : i < 5
      · obtain ⟨q, x, y, e, hq, r⟩ := hv9 i h5
        exact ⟨q, x, y, by rw [List.getD_eq_getElem?_getD, List.getElem?_append_left (by omega), ← List.getD_eq_getElem?_getD]; exact e, (Gr.of (e10.trans (e11.trans e12))).sqT hq, r⟩
      · have e5 : i = zs.length := by omega
        subst e5
        exact ⟨pf, w, h, by rw [List.getD_eq_getElem?_getD, List.getElem?_append_right (Nat.le_refl _), Nat.sub_self]; rfl, (Gr.of (s4.trans (s48.trans s812))).sqT (st_of h2), hw'.1, hw'.2, hh'.1, hh'.2⟩
    generalize hit2 : zs ++ [V.ref pf] = it at h12 hit
    walk_at "r"
    refine x_ienum' (W12.gr.sqL (sq_of h12)) ?_
    refine x_forT (F := F12) (ItTup.enum (sq_of h12)) (fun i σ H' => ∃ o5 o6 o7 o9 o10 C S l D F', σ = [some (.ref a), some (.int (k : Int)), some (.int (m : Nat)), some (.ref pf), some (.ref D), o5, o6, o7, some (.ref s), o9, o10] ∧ Same F12 F' ∧ ScrAt c F' C S ∧ Typed S ls l ∧ S.most = 200 ∧ S.rd.pre = .no ∧ F' D = some (.lst (SV (ls ++ [l]))) ∧ (l.length ≤ if i ≤ 2 then 24 else 26) ∧ (∀ n ∈ l, n < 1114112) ∧ Hold F' (scrL c s C S []) H')
      (fun i σ H' _ ⟨_, _, _, _, _, _, _, _, _, F', _, s', _, _, _, _, _, _, _, W'⟩ => (Gr.of s').trans W'.gr) ?_ ?_ ?_
    · exact ⟨_, _, _, _, _, C7, S, l, D, F12, rfl, Same.refl F12, A7.gr (Gr.of (e8.trans s812)), Ty, tm, tp, (e8.trans s812) _ _ (e7 _ _ hD6), (hLo l (by simp)).1, (hmem24 l (by simp)).2, W12⟩
    · rintro i σ H13 Tj hi ⟨o5, o6, o7, o9, o10, C, S, l, D, F13, rfl, s13, A13, Ty, tm, tp, hD13, hll, hln, W13⟩ nT
      have W14 := W13.alloc (o := .tup [.int (i : Nat), it.getD i .non]) nT
      have s14 : Same F13 (upd F13 Tj (.tup [.int (i : Nat), it.getD i .non])) := same_new (W13.fresh nT)
      have hT1 : (upd F13 Tj (.tup [.int (i : Nat), it.getD i .non])) Tj = some (.tup [.int (i : Nat), it.getD i .non]) := upd_same
      generalize upd F13 Tj (.tup [.int (i : Nat), it.getD i .non]) = F14 at W14 s14 hT1
      generalize upd H13 Tj (.tup [.int (i : Nat), it.getD i .non]) = H14 at W14 ⊢
      obtain ⟨q, x, y, eq, hq, hx1, hx2, hy1, hy2⟩ := hit i hi
      rw [eq] at hT1
      refine x_gtup (st_of (W14.old _ _ hT1)) rfl ?_
      have q14 := (Gr.of (s13.trans s14)).sqT hq
      have A14 := A13.gr (Gr.of s14)
      walk_at "r"
      refine l_ixT (W14.gr.sqT q14) (by rfl) ?_
      walk_at "r"
      refine l_ixT (W14.gr.sqT q14) (by rfl) ?_
      walk_at "r"
      have hcx : cntOk (.int (x : Nat)) 2 60 = true := cntOk_nat (lo := 2) (hi := 60) hx1 hx2
      have hcy : cntOk (.int (y : Nat)) 2 40 = true := cntOk_nat (lo := 2) (hi := 40) hy1 hy2
      have hls : ∀ q ∈ ls, q.length ≤ 24 := fun q hq' => (hLo q (List.mem_append_left _ hq')).1
      have hl26 : l.length ≤ 26 := by split at hll <;> omega
      have hlsn : ls.length ≤ 5 := by rw [List.length_append, List.length_singleton] at hn6; omega
      have hsum : ((ls ++ [l]).map fun l : List Nat => l.length + 1).sum ≤ 152 := by
        have z : ∀ qs : List (List Nat), (∀ q ∈ qs, q.length ≤ 24) → (qs.map fun l : List Nat => l.length + 1).sum ≤ 25 * qs.length := by
          intro qs
          induction qs with
          | nil => intro _; exact Nat.le_refl _
          | cons q qs ih =>
            intro hq'
            have h1 := hq' q List.mem_cons_self
            have h2 := ih fun q2 h2 => hq' q2 (List.mem_cons_of_mem _ h2)
            show (q.length + 1) + (qs.map fun l : List Nat => l.length + 1).sum ≤ 25 * (qs.length + 1)
            omega
        have z1 := z ls hls
        rw [List.map_append, List.sum_append]
        show _ + (l.length + 1 + 0) ≤ 152
        omega
      refine ⟨s, C, S, _, _, F14, [], rfl, .nat, .nat, A14, Ty.lay.ok, W14, fun w2 h2' ex ey hw2 hh2 C15 F15 H15 e15 A15 W15 => ?_, fun z => by rw [hcx, hcy] at z; cases z⟩
      have ex' := nat_inj ex
      have ey' := nat_inj ey
      subst ex' ey'
      obtain ⟨Ty2, tw2, th2, tm2, tr2⟩ := Scr.typed_resize Ty hw2 hh2 (by have := allRows_size (ls := ls ++ [l]) (w := w2) (by omega); omega)
      have tm2' : (S.resized w2 h2').most = 200 := tm2.trans tm
      have tp2 : (S.resized w2 h2').rd.pre = .no := by rw [tr2]; exact tp
      generalize S.resized w2 h2' = S2 at Ty2 tw2 th2 tm2 tr2 tm2' tp2 A15 W15
      walk_at "r"
      have q15 := (Gr.of e15).sqT q14
      have hmem : ∀ q ∈ ls ++ [l], q.length ≤ 100 ∧ ∀ n ∈ q, n < 1114112 := fun q hq' => by
        rcases List.mem_append.mp hq' with h' | h'
        · exact hmem24 q (List.mem_append_left _ h')
        · rw [List.mem_singleton.mp h']; exact ⟨by omega, hln⟩
      have hnn : (ls ++ [l]).length ≤ 100 := by rw [List.length_append, List.length_singleton]; omega
      refine l_ixT (W15.gr.sqT q15) (by rfl) ?_
      walk_at "r"
      refine l_ixT (W15.gr.sqT q15) (by rfl) ?_
      walk_at "r"
      refine ⟨s, C15, S2, ls, l, D, _, F15, [], by rw [tw2], A15, Ty2, sq_of ((s14.trans e15) _ _ hD13), hnn, hmem, W15, fun F16 H16 e16 W16 => ?_⟩
      walk_at "r"
      refine wF rfl ?_
      walk_at "r"
      have s1316 : Same F13 F16 := s14.trans (e15.trans e16)
      refine wD (fun h2i => ?_) (fun h2i => ?_)
      · have h2i' : i = 2 := h2i
        have okX : okText (.str (T [120, 121])) = true := by decide +kernel
        have px : ∀ n ∈ ([120, 121] : List Nat), plainSign n := fun n hn => by
          rcases List.mem_cons.mp hn with rfl | hn
          · exact .inr ⟨⟨rfl, by decide⟩, by decide, by decide⟩
          · rw [List.mem_singleton.mp hn]; exact .inr ⟨⟨rfl, by decide⟩, by decide, by decide⟩
        have TX := Scr.typed_fed (S := S2) (a := (ls, l)) (x := [120, 121]) Ty2 tp2 px (by rw [tm2']; show ((ls ++ [l]).map fun l : List Nat => l.length + 1).sum + 2 ≤ 200; omega)
        rw [tyAll_line (m := [120, 121]) (fun n hn => by rcases List.mem_cons.mp hn with rfl | hn; · decide
                                                         · rw [List.mem_singleton.mp hn]; decide) (ls, l)] at TX
        obtain ⟨Ty3, tw3, tm3, th3, tr3⟩ := TX
        walk_at "r"
        refine sp_feed_ok (l := [120, 121]) (A15.gr (Gr.of e16)) W16 okX fun C17 F17 H17 e17 A17 W17 => ?_
        have tm3' : (S2.fed [120, 121]).most = 200 := tm3.trans tm2'
        have tp3 : (S2.fed [120, 121]).rd.pre = .no := by rw [tr3]; exact tp2
        have tw3' : (S2.fed [120, 121]).wide = w2 := tw3.trans tw2
        generalize S2.fed [120, 121] = S3 at Ty3 tw3 tm3 th3 tr3 tm3' tp3 tw3' A17 W17
        have Ty3 : Typed S3 ls (l ++ [120, 121]) := Ty3
        have s1317 : Same F13 F17 := s1316.trans e17
        have hD17 := s1317 _ _ hD13
        have esv : SV (ls ++ [l]) = SV ls ++ [.str (T l)] := by unfold SV; rw [List.map_append]; rfl
        have hl24 : l.length ≤ 24 := by rw [if_pos (by omega)] at hll; exact hll
        rw [esv] at hD17
        walk_at "r"
        refine n_slF W17 (sq_of (W17.old _ _ hD17)) fun D18 F18 H18 e18 h18 W18 => ?_
        have h18' : F18 D18 = some (.lst (SV ls)) := by
          rw [h18]
          congr 2
          rw [cutV_L]
          unfold cutL
          have e1 : HT.sIx (SV ls ++ [V.str (T l)]).length (SV ls ++ [V.str (T l)]).length (some (-1)) = (SV ls).length := by
            have sI : ∀ n d : Nat, HT.sIx n d (some (-1)) = n - 1 := fun n d => by
              show (if (-1 : Int) < 0 then ((-1 : Int) + (n : Int)).toNat else min (-1 : Int).toNat n) = n - 1
              rw [if_pos (by decide)]; omega
            rw [sI, List.length_append, List.length_singleton]; rfl
          have e0 : HT.sIx (SV ls ++ [V.str (T l)]).length 0 none = 0 := rfl
          rw [e1, e0, List.drop_zero, Nat.sub_zero, List.take_left]
        walk_at "r"
        refine l_ixL (sq_of (W18.old _ _ (e18 _ _ hD17))) atI_last ?_
        walk_at "r"
        refine l_addX (m := [120, 121]) (by show l.length + 2 ≤ 1000000; omega) ?_
        walk_at "r"
        refine n_lstF W18 (sz rfl) fun D19 F19 H19 e19 h19 W19 => ?_
        refine n_addF W19 (W19.old _ _ (e19 _ _ h18')) (W19.old _ _ h19) (by rw [List.length_map]; exact szl (by show ls.length + 1 ≤ 100000; omega)) fun D20 F20 H20 e20 h20 W20 => ?_
        have h20' : F20 D20 = some (.lst (SV (ls ++ [l ++ [120, 121]]))) := by rw [h20]; unfold SV; rw [List.map_append]; rfl
        have s1720 : Same F17 F20 := e18.trans (e19.trans e20)
        have A20 := A17.gr (Gr.of s1720)
        have q20 := (Gr.of (e16.trans (e17.trans s1720))).sqT q15
        have hln3 : ∀ n ∈ l ++ [120, 121], n < 1114112 := fun n hn => by
          rcases List.mem_append.mp hn with hn | hn
          · exact hln n hn
          · rcases List.mem_cons.mp hn with rfl | hn
            · decide
            · rw [List.mem_singleton.mp hn]; decide
        have hl3 : (l ++ [120, 121]).length ≤ 26 := by rw [List.length_append]; show l.length + 2 ≤ 26; omega
        have hmem3 : ∀ q ∈ ls ++ [l ++ [120, 121]], q.length ≤ 100 ∧ ∀ n ∈ q, n < 1114112 := fun q hq' => by
          rcases List.mem_append.mp hq' with h' | h'
          · exact hmem24 q (List.mem_append_left _ h')
          · rw [List.mem_singleton.mp h']; exact ⟨by omega, hln3⟩
        walk_at "r"
        refine l_ixT (W20.gr.sqT q20) (by rfl) ?_
        walk_at "r"
        refine l_ixT (W20.gr.sqT q20) (by rfl) ?_
        walk_at "r"
        refine ⟨s, C17, S3, ls, l ++ [120, 121], D20, _, F20, [], by rw [tw3'], A20, Ty3, sq_of h20', by rw [List.length_append, List.length_singleton]; omega, hmem3, W20, fun F21 H21 e21 W21 => ?_⟩
        walk_at "r"
        refine wF rfl ?_
        walk_at "r"
        refine ⟨_, _, _, _, _, C17, S3, l ++ [120, 121], D20, F21, rfl, s13.trans (s1317.trans (s1720.trans e21)), A20.gr (Gr.of e21), Ty3, tm3', tp3, e21 _ _ h20', ?_, hln3, W21⟩
        rw [if_neg (by omega)]
        exact hl3
      · walk_at "r"
        refine ⟨_, _, _, _, _, C15, S2, l, D, F16, rfl, s13.trans s1316, A15.gr (Gr.of e16), Ty2, tm2', tp2, s1316 _ _ hD13, ?_, hln, W16⟩
        by_cases h3 : i ≤ 1
        · rw [if_pos (by omega)]
          rw [if_pos (by omega)] at hll
          exact hll
        · rw [if_neg (by have : ¬ i = 2 := h2i; omega)]
          exact hl26
    · rintro σ H13 ⟨o5, o6, o7, o9, o10, C, S, l, D, F13, rfl, s13, A13, Ty, tm, tp, hD13, hll, hln, W13⟩
      exact ⟨_, _, _, _, _, _, _, _, _, _, F13, rfl, g.trans (Gr.of (e1.trans (e2.trans (s4.trans (s48.trans (s812.trans s13)))))), W13.nil⟩
  · rintro σ H' ⟨o1, o2, o3, o4, o5, o6, o7, o8, o9, o10, F', rfl, g, W'⟩
    walk_at "r"
    exact kk H'
end
end Ss
/-! ## the row's part, printed by row.py -/
namespace Ss
open PySem PySem.Spec PyProof.Rows L2
/-- what the top has made, as far as the defs ask it -/
structure Txt (c : Ctx) (mg : Str → Option Value) : Prop where
  b_ord : mg "ord" = none
  b_isinstance : mg "isinstance" = none
  b_str : mg "str" = none
  b_len : mg "len" = none
  b_all : mg "all" = none
  b_tuple : mg "tuple" = none
  b_int : mg "int" = none
  b_bool : mg "bool" = none
  b_range : mg "range" = none
  b_max : mg "max" = none
  b_min : mg "min" = none
  b_enumerate : mg "enumerate" = none
  g_BARRED : GlobV mg "BARRED" (v_BARRED c)
  g_GAP : GlobV mg "GAP" (v_GAP c)
  g_MOST_TEXT : GlobV mg "MOST_TEXT" (v_MOST_TEXT c)
  g_SMALL : GlobV mg "SMALL" (v_SMALL c)
  g_GREAT : GlobV mg "GREAT" (v_GREAT c)
  g_FIGURES : GlobV mg "FIGURES" (v_FIGURES c)
  g_MOST_FIGURES : GlobV mg "MOST_FIGURES" (v_MOST_FIGURES c)
  g_MOST_ARGUMENTS : GlobV mg "MOST_ARGUMENTS" (v_MOST_ARGUMENTS c)
  g_BLANK : GlobV mg "BLANK" (v_BLANK c)
  g_LEAST_HIGH : GlobV mg "LEAST_HIGH" (v_LEAST_HIGH c)
  g_MOST_HIGH : GlobV mg "MOST_HIGH" (v_MOST_HIGH c)
  g_LEAST_WIDE : GlobV mg "LEAST_WIDE" (v_LEAST_WIDE c)
  g_MOST_WIDE : GlobV mg "MOST_WIDE" (v_MOST_WIDE c)
  g_MOST_KEPT : GlobV mg "MOST_KEPT" (v_MOST_KEPT c)
  g_PLAIN : GlobV mg "PLAIN" (v_PLAIN c)
  x_BadText : ErrX c.K mg "BadText" c.cBadText
  x_BadSize : ErrX c.K mg "BadSize" c.cBadSize

section
variable {P : Program} {w : World} {c : Ctx} {mg : Str → Option Value} {base : Heap}
abbrev M_is_sign : List Str := ["sign"]
theorem sc_is_sign : FnScope M_is_sign ["sign"] (defScope st_is_sign) := ⟨rfl, rfl, rfl, by decide +kernel, rfl, by decide +kernel, by decide +kernel⟩
theorem ok_is_sign {f : Addr} {fd : FuncData} (F : Fun c.K "is_sign" "is_sign" st_is_sign f fd) (T : Txt c mg) (R : RD M_is_sign (t_is_sign c) (sp_is_sign c)) (Rl : ∀ vs H Q E, sp_is_sign c vs H Q E → vs.length = 1) : FnOk P w c.K mg base CX0 1 f fd ["sign"] (sp_is_sign c) := by
  have nd := sc_is_sign.nd
  refine F.ok sc_is_sign Rl (fun cdv A outer s H vs Q E hr h => ⟨t_is_sign c E, ?_, R vs H Q E h⟩)
  exact (pss_one (ps_ret (pe_or (pe_cmpR (oEq hr.units) (pv 0) (pe_gv T.g_GAP) (by first | rfl | exact nomark _)) (pe_one (pe_and (pe_chain oLe oLe (pe_sc (by decide +kernel)) (pv 0) (pe_sc (by decide +kernel))) (pe_one (pe_cmpR (oNe hr.units) (pe_callB cOrd (by rfl) T.b_ord (by decide +kernel) (pa_cons (pv 0) pa_nil)) (pe_gv T.g_BARRED) (by first | rfl | exact nomark _))))))))

abbrev M_need_text : List Str := ["text", "sign"]
theorem sc_need_text : FnScope M_need_text ["text"] (defScope st_need_text) := ⟨rfl, rfl, rfl, by decide +kernel, rfl, by decide +kernel, by decide +kernel⟩
theorem ok_need_text {f : Addr} {fd : FuncData} (F : Fun c.K "need_text" "need_text" st_need_text f fd) (T : Txt c mg) (R : RD M_need_text (t_need_text c) (sp_need_text c)) (Rl : ∀ vs H Q E, sp_need_text c vs H Q E → vs.length = 1) (D_is_sign : DefX P w c.K mg base CX0 "is_sign" 1 ["sign"] (sp_is_sign c)) : FnOk P w c.K mg base (L2.CX P w) 2 f fd ["text"] (sp_need_text c) := by
  have nd := sc_need_text.nd
  refine F.okX sc_need_text Rl (fun cdv A outer s H vs Q E hr h => ⟨t_need_text c E, ?_, R vs H Q E h⟩)
  exact (pss_one (ps_if (PW.pt (pw_or (pt_not (pt_val (pe_isTy (pv 0) (by rfl) T.b_isinstance (by rfl) T.b_str (by decide +kernel)))) (pw_or (pt_cmpR oGt (pe_callB cLen (by rfl) T.b_len (by decide +kernel) (pa_cons (pv 0) pa_nil)) (pe_gv T.g_MOST_TEXT) (by first | rfl | exact nomark _)) (pw_or1 (pt_not (pt_val (pe_callB (cr_all rfl) (by rfl) T.b_all (by decide +kernel) (pa_cons (pe_lc (own := [("sign", 1)]) (g := (gName 1)) (tt := tYes) (te := (tF (sp_is_sign c) E0 (tCons (tVar 1) tNil))) rfl nd (pi_str (pv 0)) (blkOk_by (own := [("sign", 1)]) (N := M_need_text) (sc := (defScope st_need_text)) (by decide +kernel)) (fun _ _ _ _ _ => (pg_name (i := 1) nd rfl (by first | exact Or.inl rfl | exact Or.inr rfl))) (fun _ _ _ _ _ => pts_nil) (fun _ _ _ _ _ => (pe_f D_is_sign hr (by decide) pass0 (pa_cons (pv 1) pa_nil)))) pa_nil)))))))) (pss_one (ps_rz T.x_BadText (takes_of rfl rfl rfl rfl))) pss_nil))

abbrev M_Reader_init : List Str := ["self"]
theorem sc_Reader_init : FnScope M_Reader_init ["self"] (defScope st_Reader_init) := ⟨rfl, rfl, rfl, by decide +kernel, rfl, by decide +kernel, by decide +kernel⟩
theorem ok_Reader_init {f : Addr} {fd : FuncData} (F : Fun c.K "__init__" "Reader.__init__" st_Reader_init f fd) (T : Txt c mg) (R : RD M_Reader_init (t_Reader_init c) (sp_Reader_init c)) (Rl : ∀ vs H Q E, sp_Reader_init c vs H Q E → vs.length = 1) : FnOk P w c.K mg base CX0 1 f fd ["self"] (sp_Reader_init c) := by
  have nd := sc_Reader_init.nd
  refine F.ok sc_Reader_init Rl (fun cdv A outer s H vs Q E hr h => ⟨t_Reader_init c E, ?_, R vs H Q E h⟩)
  exact (pss_cons (ps_fld (pv 0) (pe_sc (by decide +kernel)) rfl)
  (pss_one (ps_fld (pv 0) pe_int rfl)))

abbrev M_Reader_feed : List Str := ["self", "text", "found", "sign"]
theorem sc_Reader_feed : FnScope M_Reader_feed ["self", "text"] (defScope st_Reader_feed) := ⟨rfl, rfl, rfl, by decide +kernel, rfl, by decide +kernel, by decide +kernel⟩
theorem ok_Reader_feed {f : Addr} {fd : FuncData} (F : Fun c.K "feed" "Reader.feed" st_Reader_feed f fd) (T : Txt c mg) (R : RD M_Reader_feed (t_Reader_feed c) (sp_Reader_feed c)) (Rl : ∀ vs H Q E, sp_Reader_feed c vs H Q E → vs.length = 2) (D_need_text : DefX P w c.K mg base (L2.CX P w) "need_text" 2 ["text"] (sp_need_text c)) (D_Reader_read : MethX P w c.K mg base CX0 c.cReader "read" 2 ["self", "sign"] (sp_Reader_read c)) : FnOk P w c.K mg base (L2.CX P w) 3 f fd ["self", "text"] (sp_Reader_feed c) := by
  have nd := sc_Reader_feed.nd
  refine F.okX sc_Reader_feed Rl (fun cdv A outer s H vs Q E hr h => ⟨t_Reader_feed c E, ?_, R vs H Q E h⟩)
  exact (pss_cons (ps_expr (pe_f D_need_text hr (by decide) passE (pa_cons (pv 1) pa_nil)))
  (pss_cons (ps_set (i := 2) nd rfl (by first | exact Or.inl rfl | exact Or.inr rfl) (pe_lst pa_nil))
  (pss_cons (ps_for (passes_of rfl) rfl (pi_str (pv 1)) (pg_name (i := 3) nd rfl (by first | exact Or.inl rfl | exact Or.inr rfl)) (pss_one (ps_expr (pe_bm PySem.F.plainAttrs_list PySem.F.slot_list_extend PySem.F.type_list_extend mt_extend (pv 2) (pa_cons (pe_o D_Reader_read hr (by decide) pass0 (pv 0) (pa_cons (pv 3) pa_nil)) pa_nil)))))
  (pss_one (ps_ret (pv 2))))))

abbrev M_Reader_plain : List Str := ["self", "sign"]
theorem sc_Reader_plain : FnScope M_Reader_plain ["self", "sign"] (defScope st_Reader_plain) := ⟨rfl, rfl, rfl, by decide +kernel, rfl, by decide +kernel, by decide +kernel⟩
theorem ok_Reader_plain {f : Addr} {fd : FuncData} (F : Fun c.K "plain" "Reader.plain" st_Reader_plain f fd) (T : Txt c mg) (R : RD M_Reader_plain (t_Reader_plain c) (sp_Reader_plain c)) (Rl : ∀ vs H Q E, sp_Reader_plain c vs H Q E → vs.length = 2) : FnOk P w c.K mg base CX0 1 f fd ["self", "sign"] (sp_Reader_plain c) := by
  have nd := sc_Reader_plain.nd
  refine F.ok sc_Reader_plain Rl (fun cdv A outer s H vs Q E hr h => ⟨t_Reader_plain c E, ?_, R vs H Q E h⟩)
  exact (pss_cons (ps_if (pt_cmpR (oEq hr.units) (pv 1) (pe_sc (by decide +kernel)) (by first | rfl | exact nomark _)) (pss_cons (ps_fld (pv 0) (pe_sc (by decide +kernel)) rfl)
  (pss_one (ps_ret (pe_lst pa_nil)))) pss_nil)
  (pss_one (ps_ret (pe_ifExp (pt_cmpR (oEq hr.units) (pv 1) (pe_gv T.g_GAP) (by first | rfl | exact nomark _)) (pe_lst (pa_cons (pe_tup (pa_cons (pe_sc (by decide +kernel)) pa_nil)) pa_nil)) (pe_lst (pa_cons (pe_tup (pa_cons (pe_sc (by decide +kernel)) (pa_cons (pv 1) pa_nil))) pa_nil))))))

abbrev M_Reader_read : List Str := ["self", "sign"]
theorem sc_Reader_read : FnScope M_Reader_read ["self", "sign"] (defScope st_Reader_read) := ⟨rfl, rfl, rfl, by decide +kernel, rfl, by decide +kernel, by decide +kernel⟩
theorem ok_Reader_read {f : Addr} {fd : FuncData} (F : Fun c.K "read" "Reader.read" st_Reader_read f fd) (T : Txt c mg) (R : RD M_Reader_read (t_Reader_read c) (sp_Reader_read c)) (Rl : ∀ vs H Q E, sp_Reader_read c vs H Q E → vs.length = 2) (D_Reader_plain : MethX P w c.K mg base CX0 c.cReader "plain" 1 ["self", "sign"] (sp_Reader_plain c)) (D_Reader_can_go_on : MethX P w c.K mg base CX0 c.cReader "can_go_on" 1 ["self", "sign"] (sp_Reader_can_go_on c)) (D_Reader_whole : MethX P w c.K mg base CX0 c.cReader "whole" 1 ["self"] (sp_Reader_whole c)) : FnOk P w c.K mg base CX0 2 f fd ["self", "sign"] (sp_Reader_read c) := by
  have nd := sc_Reader_read.nd
  refine F.ok sc_Reader_read Rl (fun cdv A outer s H vs Q E hr h => ⟨t_Reader_read c E, ?_, R vs H Q E h⟩)
  exact (pss_cons (ps_if (pt_cmpR (oEq hr.units) (pe_fld (pv 0) rfl) (pe_sc (by decide +kernel)) (by first | rfl | exact nomark _)) (pss_one (ps_ret (pe_o D_Reader_plain hr (by decide) pass0 (pv 0) (pa_cons (pv 1) pa_nil)))) pss_nil)
  (pss_cons (ps_if (pt_val (pe_o D_Reader_can_go_on hr (by decide) pass0 (pv 0) (pa_cons (pv 1) pa_nil))) (pss_cons (ps_fld (pv 0) (pe_op oAdd (pe_fld (pv 0) rfl) (pv 1)) rfl)
  (pss_one (ps_ret (pe_o0 D_Reader_whole hr (by decide) pass0 (pv 0))))) pss_nil)
  (pss_cons (ps_fld (pv 0) (pe_op oAdd (pe_fld (pv 0) rfl) (pe_callB cLen (by rfl) T.b_len (by decide +kernel) (pa_cons (pe_fld (pv 0) rfl) pa_nil))) rfl)
  (pss_cons (ps_fld (pv 0) (pe_sc (by decide +kernel)) rfl)
  (pss_one (ps_ret (pe_o D_Reader_plain hr (by decide) pass0 (pv 0) (pa_cons (pv 1) pa_nil))))))))

abbrev M_Reader_can_go_on : List Str := ["self", "sign", "last"]
theorem sc_Reader_can_go_on : FnScope M_Reader_can_go_on ["self", "sign"] (defScope st_Reader_can_go_on) := ⟨rfl, rfl, rfl, by decide +kernel, rfl, by decide +kernel, by decide +kernel⟩
theorem ok_Reader_can_go_on {f : Addr} {fd : FuncData} (F : Fun c.K "can_go_on" "Reader.can_go_on" st_Reader_can_go_on f fd) (T : Txt c mg) (R : RD M_Reader_can_go_on (t_Reader_can_go_on c) (sp_Reader_can_go_on c)) (Rl : ∀ vs H Q E, sp_Reader_can_go_on c vs H Q E → vs.length = 2) : FnOk P w c.K mg base CX0 1 f fd ["self", "sign"] (sp_Reader_can_go_on c) := by
  have nd := sc_Reader_can_go_on.nd
  refine F.ok sc_Reader_can_go_on Rl (fun cdv A outer s H vs Q E hr h => ⟨t_Reader_can_go_on c E, ?_, R vs H Q E h⟩)
  exact (pss_cons (ps_if (pt_cmpR (oEq hr.units) (pe_callB cLen (by rfl) T.b_len (by decide +kernel) (pa_cons (pe_fld (pv 0) rfl) pa_nil)) pe_int (by first | rfl | exact nomark _)) (pss_one (ps_ret (pe_cmpR oIn (pv 1) (pe_op oAdd (pe_op oAdd (pe_gv T.g_SMALL) (pe_gv T.g_GREAT)) (pe_sc (by decide +kernel))) (by first | rfl | exact nomark _)))) pss_nil)
  (pss_cons (ps_if (pt_cmpR (oEq hr.units) (pe_callB cLen (by rfl) T.b_len (by decide +kernel) (pa_cons (pe_fld (pv 0) rfl) pa_nil)) pe_int (by first | rfl | exact nomark _)) (pss_one (ps_ret (pe_cmpR (oEq hr.units) (pv 1) (pe_sc (by decide +kernel)) (by first | rfl | exact nomark _)))) pss_nil)
  (pss_cons (ps_set (i := 2) nd rfl (by first | exact Or.inl rfl | exact Or.inr rfl) (pe_ix iIx (pe_usplit (pe_slice sSl (pe_fld (pv 0) rfl) (po_some pe_int) po_none) (pe_sc (by decide +kernel))) (pe_un un_neg pe_int) (fun _ _ => rfl)))
  (pss_cons (ps_if (pt_cmpR oIn (pv 1) (pe_gv T.g_FIGURES) (by first | rfl | exact nomark _)) (pss_one (ps_ret (pe_cmpR oLt (pe_callB cLen (by rfl) T.b_len (by decide +kernel) (pa_cons (pv 2) pa_nil)) (pe_gv T.g_MOST_FIGURES) (by first | rfl | exact nomark _)))) pss_nil)
  (pss_cons (ps_if (pt_cmpR (oEq hr.units) (pv 1) (pe_sc (by decide +kernel)) (by first | rfl | exact nomark _)) (pss_one (ps_ret (pe_and (pe_cmpR (oNe hr.units) (pv 2) (pe_sc (by decide +kernel)) (by first | rfl | exact nomark _)) (pe_one (pe_cmpR oLt (pe_ucount (pe_fld (pv 0) rfl) (pe_sc (by decide +kernel))) (pe_op oSub (pe_gv T.g_MOST_ARGUMENTS) pe_int) (by first | rfl | exact nomark _)))))) pss_nil)
  (pss_one (ps_ret (pe_and (pe_cmpR (oEq hr.units) (pv 1) (pe_sc (by decide +kernel)) (by first | rfl | exact nomark _)) (pe_one (pe_or (pe_cmpR (oNe hr.units) (pv 2) (pe_sc (by decide +kernel)) (by first | rfl | exact nomark _)) (pe_one (pe_cmpR (oEq hr.units) (pe_ix iIx (pe_fld (pv 0) rfl) (pe_un un_neg pe_int) (fun _ _ => rfl)) (pe_sc (by decide +kernel)) (by first | rfl | exact nomark _)))))))))))))

abbrev M_Reader_whole : List Str := ["self", "word", "rest", "one"]
theorem sc_Reader_whole : FnScope M_Reader_whole ["self"] (defScope st_Reader_whole) := ⟨rfl, rfl, rfl, by decide +kernel, rfl, by decide +kernel, by decide +kernel⟩
theorem ok_Reader_whole {f : Addr} {fd : FuncData} (F : Fun c.K "whole" "Reader.whole" st_Reader_whole f fd) (T : Txt c mg) (R : RD M_Reader_whole (t_Reader_whole c) (sp_Reader_whole c)) (Rl : ∀ vs H Q E, sp_Reader_whole c vs H Q E → vs.length = 1) : FnOk P w c.K mg base CX0 1 f fd ["self"] (sp_Reader_whole c) := by
  have nd := sc_Reader_whole.nd
  refine F.ok sc_Reader_whole Rl (fun cdv A outer s H vs Q E hr h => ⟨t_Reader_whole c E, ?_, R vs H Q E h⟩)
  exact (pss_cons (ps_set (i := 1) nd rfl (by first | exact Or.inl rfl | exact Or.inr rfl) (pe_fld (pv 0) rfl))
  (pss_cons (ps_if (pt_cmpR (oEq hr.units) (pv 1) (pe_sc (by decide +kernel)) (by first | rfl | exact nomark _)) (pss_cons (ps_fld (pv 0) (pe_sc (by decide +kernel)) rfl)
  (pss_one (ps_ret (pe_lst (pa_cons (pe_tup (pa_cons (pe_sc (by decide +kernel)) (pa_cons (pe_sc (by decide +kernel)) pa_nil))) pa_nil))))) pss_nil)
  (pss_cons (ps_if (PW.pt (pw_and (pt_cmpR (oEq hr.units) (pe_callB cLen (by rfl) T.b_len (by decide +kernel) (pa_cons (pv 1) pa_nil)) pe_int (by first | rfl | exact nomark _)) (pw_and1 (pt_cmpR oIn (pe_ix iIx (pv 1) pe_int (fun _ _ => rfl)) (pe_gv T.g_SMALL) (by first | rfl | exact nomark _))))) (pss_cons (ps_fld (pv 0) (pe_sc (by decide +kernel)) rfl)
  (pss_one (ps_ret (pe_lst (pa_cons (pe_tup (pa_cons (pe_sc (by decide +kernel)) (pa_cons (pe_ix iIx (pv 1) pe_int (fun _ _ => rfl)) (pa_cons (pe_tup pa_nil) pa_nil)))) pa_nil))))) pss_nil)
  (pss_cons (ps_if (pt_cmpR (oNe hr.units) (pe_ix iIx (pv 1) (pe_un un_neg pe_int) (fun _ _ => rfl)) (pe_sc (by decide +kernel)) (by first | rfl | exact nomark _)) (pss_one (ps_ret (pe_lst pa_nil))) pss_nil)
  (pss_cons (ps_fld (pv 0) (pe_sc (by decide +kernel)) rfl)
  (pss_cons (ps_set (i := 2) nd rfl (by first | exact Or.inl rfl | exact Or.inr rfl) (pe_slice sSl (pv 1) (po_some pe_int) (po_some (pe_un un_neg pe_int))))
  (pss_one (ps_ret (pe_lst (pa_cons (pe_tup (pa_cons (pe_sc (by decide +kernel)) (pa_cons (pe_ix iIx (pv 1) pe_int (fun _ _ => rfl)) (pa_cons (pe_ifExp (pt_cmpR (oNe hr.units) (pv 2) (pe_sc (by decide +kernel)) (by first | rfl | exact nomark _)) (pe_callTy cTuple (by rfl) T.b_tuple (by decide +kernel) (pa_cons (pe_lc (own := [("one", 3)]) (g := (gName 3)) (tt := tYes) (te := (tCB uInt (tCons (tVar 3) tNil))) rfl nd (pi_list (pe_usplit (pv 2) (pe_sc (by decide +kernel)))) (blkOk_by (own := [("one", 3)]) (N := M_Reader_whole) (sc := (defScope st_Reader_whole)) (by decide +kernel)) (fun _ _ _ _ _ => (pg_name (i := 3) nd rfl (by first | exact Or.inl rfl | exact Or.inr rfl))) (fun _ _ _ _ _ => pts_nil) (fun _ _ _ _ _ => (pe_callTy cInt (by rfl) T.b_int (by decide +kernel) (pa_cons (pv 3) pa_nil)))) pa_nil)) (pe_tup pa_nil)) pa_nil)))) pa_nil))))))))))

abbrev M_is_count : List Str := ["thing", "least", "most"]
theorem sc_is_count : FnScope M_is_count ["thing", "least", "most"] (defScope st_is_count) := ⟨rfl, rfl, rfl, by decide +kernel, rfl, by decide +kernel, by decide +kernel⟩
theorem ok_is_count {f : Addr} {fd : FuncData} (F : Fun c.K "is_count" "is_count" st_is_count f fd) (T : Txt c mg) (R : RD M_is_count (t_is_count c) (sp_is_count c)) (Rl : ∀ vs H Q E, sp_is_count c vs H Q E → vs.length = 3) : FnOk P w c.K mg base CX0 1 f fd ["thing", "least", "most"] (sp_is_count c) := by
  have nd := sc_is_count.nd
  refine F.ok sc_is_count Rl (fun cdv A outer s H vs Q E hr h => ⟨t_is_count c E, ?_, R vs H Q E h⟩)
  exact (pss_one (ps_ret (pe_and (pe_isTy (pv 0) (by rfl) T.b_isinstance (by rfl) T.b_int (by decide +kernel)) (pe_and (pe_not (pe_isTy (pv 0) (by rfl) T.b_isinstance (by rfl) T.b_bool (by decide +kernel))) (pe_one (pe_chain oLe oLe (pv 1) (pv 0) (pv 2)))))))

abbrev M_need_size : List Str := ["good"]
theorem sc_need_size : FnScope M_need_size ["good"] (defScope st_need_size) := ⟨rfl, rfl, rfl, by decide +kernel, rfl, by decide +kernel, by decide +kernel⟩
theorem ok_need_size {f : Addr} {fd : FuncData} (F : Fun c.K "need_size" "need_size" st_need_size f fd) (T : Txt c mg) (R : RD M_need_size (t_need_size c) (sp_need_size c)) (Rl : ∀ vs H Q E, sp_need_size c vs H Q E → vs.length = 1) : FnOk P w c.K mg base (L2.CX P w) 1 f fd ["good"] (sp_need_size c) := by
  have nd := sc_need_size.nd
  refine F.okX sc_need_size Rl (fun cdv A outer s H vs Q E hr h => ⟨t_need_size c E, ?_, R vs H Q E h⟩)
  exact (pss_one (ps_if (pt_not (pt_val (pv 0))) (pss_one (ps_rz T.x_BadSize (takes_of rfl rfl rfl rfl))) pss_nil))

abbrev M_Row_init : List Str := ["self", "cells", "goes_on"]
theorem sc_Row_init : FnScope M_Row_init ["self", "cells", "goes_on"] (defScope st_Row_init) := ⟨rfl, rfl, rfl, by decide +kernel, rfl, by decide +kernel, by decide +kernel⟩
theorem ok_Row_init {f : Addr} {fd : FuncData} (F : Fun c.K "__init__" "Row.__init__" st_Row_init f fd) (T : Txt c mg) (R : RD M_Row_init (t_Row_init c) (sp_Row_init c)) (Rl : ∀ vs H Q E, sp_Row_init c vs H Q E → vs.length = 3) : FnOk P w c.K mg base CX0 1 f fd ["self", "cells", "goes_on"] (sp_Row_init c) := by
  have nd := sc_Row_init.nd
  refine F.ok sc_Row_init Rl (fun cdv A outer s H vs Q E hr h => ⟨t_Row_init c E, ?_, R vs H Q E h⟩)
  exact (pss_cons (ps_fld (pv 0) (pv 1) rfl)
  (pss_one (ps_fld (pv 0) (pv 2) rfl)))

abbrev M_blank_row : List Str := ["wide"]
theorem sc_blank_row : FnScope M_blank_row ["wide"] (defScope st_blank_row) := ⟨rfl, rfl, rfl, by decide +kernel, rfl, by decide +kernel, by decide +kernel⟩
theorem ok_blank_row {f : Addr} {fd : FuncData} (F : Fun c.K "blank_row" "blank_row" st_blank_row f fd) (T : Txt c mg) (R : RD M_blank_row (t_blank_row c) (sp_blank_row c)) (Rl : ∀ vs H Q E, sp_blank_row c vs H Q E → vs.length = 1) (D_Row_init : InitX P w c.K mg base CX0 "Row" c.cRow 1 ["self", "cells", "goes_on"] (sp_Row_init c)) : FnOk P w c.K mg base CX0 3 f fd ["wide"] (sp_blank_row c) := by
  have nd := sc_blank_row.nd
  refine F.ok sc_blank_row Rl (fun cdv A outer s H vs Q E hr h => ⟨t_blank_row c E, ?_, R vs H Q E h⟩)
  exact (pss_one (ps_ret (pe_n D_Row_init hr (by decide) pass0 (pa_cons (pe_op oMul (pe_lst (pa_cons (pe_gv T.g_BLANK) pa_nil)) (pv 0)) (pa_cons pe_bl pa_nil)))))

abbrev M_Screen_init : List Str := ["self", "wide", "high", "most"]
theorem sc_Screen_init : FnScope M_Screen_init ["self", "wide", "high", "most"] (defScope st_Screen_init) := ⟨rfl, rfl, rfl, by decide +kernel, rfl, by decide +kernel, by decide +kernel⟩
theorem ok_Screen_init {f : Addr} {fd : FuncData} (F : Fun c.K "__init__" "Screen.__init__" st_Screen_init f fd) (T : Txt c mg) (R : RD M_Screen_init (t_Screen_init c) (sp_Screen_init c)) (Rl : ∀ vs H Q E, sp_Screen_init c vs H Q E → vs.length = 4) (D_need_size : DefX P w c.K mg base (L2.CX P w) "need_size" 1 ["good"] (sp_need_size c)) (D_is_count : DefX P w c.K mg base CX0 "is_count" 1 ["thing", "least", "most"] (sp_is_count c)) (D_Reader_init : InitX P w c.K mg base CX0 "Reader" c.cReader 1 ["self"] (sp_Reader_init c)) (D_Screen_begin : MethX P w c.K mg base CX0 c.cScreen "begin" 4 ["self"] (sp_Screen_begin c)) : FnOk P w c.K mg base (L2.CX P w) 5 f fd ["self", "wide", "high", "most"] (sp_Screen_init c) := by
  have nd := sc_Screen_init.nd
  refine F.okX sc_Screen_init Rl (fun cdv A outer s H vs Q E hr h => ⟨t_Screen_init c E, ?_, R vs H Q E h⟩)
  exact (pss_cons (ps_expr (pe_f D_need_size hr (by decide) passE (pa_cons (pe_and (pe_f D_is_count hr (by decide) pass0 (pa_cons (pv 1) (pa_cons (pe_gv T.g_LEAST_WIDE) (pa_cons (pe_gv T.g_MOST_WIDE) pa_nil)))) (pe_one (pe_f D_is_count hr (by decide) pass0 (pa_cons (pv 2) (pa_cons (pe_gv T.g_LEAST_HIGH) (pa_cons (pe_gv T.g_MOST_HIGH) pa_nil)))))) pa_nil)))
  (pss_cons (ps_expr (pe_f D_need_size hr (by decide) passE (pa_cons (pe_f D_is_count hr (by decide) pass0 (pa_cons (pv 3) (pa_cons pe_int (pa_cons (pe_gv T.g_MOST_KEPT) pa_nil)))) pa_nil)))
  (pss_cons (ps_fld (pv 0) (pe_n0 D_Reader_init hr (by decide) pass0) rfl)
  (pss_cons (ps_fld (pv 0) (pv 1) rfl)
  (pss_cons (ps_fld (pv 0) (pv 2) rfl)
  (pss_cons (ps_fld (pv 0) (pv 3) rfl)
  (pss_cons (ps_fld (pv 0) (pe_lst pa_nil) rfl)
  (pss_one (ps_expr (pe_o0 D_Screen_begin hr (by decide) pass0 (pv 0)))))))))))

abbrev M_Screen_begin : List Str := ["self", "at"]
theorem sc_Screen_begin : FnScope M_Screen_begin ["self"] (defScope st_Screen_begin) := ⟨rfl, rfl, rfl, by decide +kernel, rfl, by decide +kernel, by decide +kernel⟩
theorem ok_Screen_begin {f : Addr} {fd : FuncData} (F : Fun c.K "begin" "Screen.begin" st_Screen_begin f fd) (T : Txt c mg) (R : RD M_Screen_begin (t_Screen_begin c) (sp_Screen_begin c)) (Rl : ∀ vs H Q E, sp_Screen_begin c vs H Q E → vs.length = 1) (D_blank_row : DefX P w c.K mg base CX0 "blank_row" 3 ["wide"] (sp_blank_row c)) : FnOk P w c.K mg base CX0 4 f fd ["self"] (sp_Screen_begin c) := by
  have nd := sc_Screen_begin.nd
  refine F.ok sc_Screen_begin Rl (fun cdv A outer s H vs Q E hr h => ⟨t_Screen_begin c E, ?_, R vs H Q E h⟩)
  exact (pss_cons (ps_fld (pv 0) (pe_lc (own := [("at", 1)]) (g := (gName 1)) (tt := tYes) (te := (tF (sp_blank_row c) E0 (tCons (tFld c.K (tVar 0) "wide") tNil))) rfl nd (pi_range1 (by rfl) T.b_range (pa_cons (pe_fld (pv 0) rfl) pa_nil)) (blkOk_by (own := [("at", 1)]) (N := M_Screen_begin) (sc := (defScope st_Screen_begin)) (by decide +kernel)) (fun _ _ _ _ _ => (pg_name (i := 1) nd rfl (by first | exact Or.inl rfl | exact Or.inr rfl))) (fun _ _ _ _ _ => pts_nil) (fun _ _ _ _ _ => (pe_f D_blank_row hr (by decide) pass0 (pa_cons (pe_fld (pv 0) rfl) pa_nil)))) rfl)
  (pss_cons (ps_fld (pv 0) pe_int rfl)
  (pss_cons (ps_fld (pv 0) pe_int rfl)
  (pss_cons (ps_fld (pv 0) pe_bl rfl)
  (pss_cons (ps_fld (pv 0) (pe_gv T.g_PLAIN) rfl)
  (pss_cons (ps_fld (pv 0) pe_int rfl)
  (pss_cons (ps_fld (pv 0) (pe_op oSub (pe_fld (pv 0) rfl) pe_int) rfl)
  (pss_cons (ps_fld (pv 0) (pe_tup (pa_cons pe_int (pa_cons pe_int (pa_cons (pe_gv T.g_PLAIN) pa_nil)))) rfl)
  (pss_one (ps_fld (pv 0) pe_non rfl))))))))))

abbrev M_Screen_texts : List Str := ["self", "cell", "row"]
theorem sc_Screen_texts : FnScope M_Screen_texts ["self"] (defScope st_Screen_texts) := ⟨rfl, rfl, rfl, by decide +kernel, rfl, by decide +kernel, by decide +kernel⟩
theorem ok_Screen_texts {f : Addr} {fd : FuncData} (F : Fun c.K "texts" "Screen.texts" st_Screen_texts f fd) (T : Txt c mg) (R : RD M_Screen_texts (t_Screen_texts c) (sp_Screen_texts c)) (Rl : ∀ vs H Q E, sp_Screen_texts c vs H Q E → vs.length = 1) : FnOk P w c.K mg base CX0 1 f fd ["self"] (sp_Screen_texts c) := by
  have nd := sc_Screen_texts.nd
  refine F.ok sc_Screen_texts Rl (fun cdv A outer s H vs Q E hr h => ⟨t_Screen_texts c E, ?_, R vs H Q E h⟩)
  exact (pss_one (ps_ret (pe_lc (own := [("row", 2)]) (g := (gName 2)) (tt := tYes) (te := (tBM c.K "str" u_rstrip (tM1 (u_join c.K) (tC (.str ⟨#[]⟩)) (tLc (iList c.K (tFld c.K (tVar 2) "cells")) (gName 1) tYes (tOp (uIx c.K) (tVar 1) (tC (.int 0))) [1])) (tCons (tC (.str ⟨#[32]⟩)) tNil))) rfl nd (pi_list (pe_fld (pv 0) rfl)) (blkOk_by (own := [("row", 2)]) (N := M_Screen_texts) (sc := (defScope st_Screen_texts)) (by decide +kernel)) (fun _ _ _ _ _ => (pg_name (i := 2) nd rfl (by first | exact Or.inl rfl | exact Or.inr rfl))) (fun _ _ _ _ _ => pts_nil) (fun _ _ _ _ _ => (pe_bm PySem.F.plainAttrs_str PySem.F.slot_str_rstrip PySem.F.type_str_rstrip mt_rstripChars (pe_ujoin (pe_sc (by decide +kernel)) (pe_lc (own := [("cell", 1)]) (g := (gName 1)) (tt := tYes) (te := (tOp (uIx c.K) (tVar 1) (tC (.int 0)))) rfl nd (pi_list (pe_fld (pv 2) rfl)) (blkOk_by (own := [("cell", 1)]) (by kernel_rfl)) (fun _ _ _ _ _ => (pg_name (i := 1) nd rfl (by first | exact Or.inl rfl | exact Or.inr rfl))) (fun _ _ _ _ _ => pts_nil) (fun _ _ _ _ _ => (pe_ix iIx (pv 1) pe_int (fun _ _ => rfl))))) (pa_cons (pe_sc (by decide +kernel)) pa_nil))))))

abbrev M_Screen_kept : List Str := ["self", "cell", "row"]
theorem sc_Screen_kept : FnScope M_Screen_kept ["self"] (defScope st_Screen_kept) := ⟨rfl, rfl, rfl, by decide +kernel, rfl, by decide +kernel, by decide +kernel⟩
theorem ok_Screen_kept {f : Addr} {fd : FuncData} (F : Fun c.K "kept" "Screen.kept" st_Screen_kept f fd) (T : Txt c mg) (R : RD M_Screen_kept (t_Screen_kept c) (sp_Screen_kept c)) (Rl : ∀ vs H Q E, sp_Screen_kept c vs H Q E → vs.length = 1) : FnOk P w c.K mg base CX0 1 f fd ["self"] (sp_Screen_kept c) := by
  have nd := sc_Screen_kept.nd
  refine F.ok sc_Screen_kept Rl (fun cdv A outer s H vs Q E hr h => ⟨t_Screen_kept c E, ?_, R vs H Q E h⟩)
  exact (pss_one (ps_ret (pe_lc (own := [("row", 2)]) (g := (gName 2)) (tt := tYes) (te := (tBM c.K "str" u_rstrip (tM1 (u_join c.K) (tC (.str ⟨#[]⟩)) (tLc (iList c.K (tFld c.K (tVar 2) "cells")) (gName 1) tYes (tOp (uIx c.K) (tVar 1) (tC (.int 0))) [1])) (tCons (tC (.str ⟨#[32]⟩)) tNil))) rfl nd (pi_list (pe_fld (pv 0) rfl)) (blkOk_by (own := [("row", 2)]) (N := M_Screen_kept) (sc := (defScope st_Screen_kept)) (by decide +kernel)) (fun _ _ _ _ _ => (pg_name (i := 2) nd rfl (by first | exact Or.inl rfl | exact Or.inr rfl))) (fun _ _ _ _ _ => pts_nil) (fun _ _ _ _ _ => (pe_bm PySem.F.plainAttrs_str PySem.F.slot_str_rstrip PySem.F.type_str_rstrip mt_rstripChars (pe_ujoin (pe_sc (by decide +kernel)) (pe_lc (own := [("cell", 1)]) (g := (gName 1)) (tt := tYes) (te := (tOp (uIx c.K) (tVar 1) (tC (.int 0)))) rfl nd (pi_list (pe_fld (pv 2) rfl)) (blkOk_by (own := [("cell", 1)]) (by kernel_rfl)) (fun _ _ _ _ _ => (pg_name (i := 1) nd rfl (by first | exact Or.inl rfl | exact Or.inr rfl))) (fun _ _ _ _ _ => pts_nil) (fun _ _ _ _ _ => (pe_ix iIx (pv 1) pe_int (fun _ _ => rfl))))) (pa_cons (pe_sc (by decide +kernel)) pa_nil))))))

abbrev M_Screen_cursor : List Str := ["self"]
theorem sc_Screen_cursor : FnScope M_Screen_cursor ["self"] (defScope st_Screen_cursor) := ⟨rfl, rfl, rfl, by decide +kernel, rfl, by decide +kernel, by decide +kernel⟩
theorem ok_Screen_cursor {f : Addr} {fd : FuncData} (F : Fun c.K "cursor" "Screen.cursor" st_Screen_cursor f fd) (T : Txt c mg) (R : RD M_Screen_cursor (t_Screen_cursor c) (sp_Screen_cursor c)) (Rl : ∀ vs H Q E, sp_Screen_cursor c vs H Q E → vs.length = 1) : FnOk P w c.K mg base CX0 1 f fd ["self"] (sp_Screen_cursor c) := by
  have nd := sc_Screen_cursor.nd
  refine F.ok sc_Screen_cursor Rl (fun cdv A outer s H vs Q E hr h => ⟨t_Screen_cursor c E, ?_, R vs H Q E h⟩)
  exact (pss_one (ps_ret (pe_tup (pa_cons (pe_fld (pv 0) rfl) (pa_cons (pe_fld (pv 0) rfl) (pa_cons (pe_fld (pv 0) rfl) pa_nil))))))

abbrev M_Screen_feed : List Str := ["self", "text", "one"]
theorem sc_Screen_feed : FnScope M_Screen_feed ["self", "text"] (defScope st_Screen_feed) := ⟨rfl, rfl, rfl, by decide +kernel, rfl, by decide +kernel, by decide +kernel⟩
theorem ok_Screen_feed {f : Addr} {fd : FuncData} (F : Fun c.K "feed" "Screen.feed" st_Screen_feed f fd) (T : Txt c mg) (R : RD M_Screen_feed (t_Screen_feed c) (sp_Screen_feed c)) (Rl : ∀ vs H Q E, sp_Screen_feed c vs H Q E → vs.length = 2) (D_Reader_feed : MethX P w c.K mg base (L2.CX P w) c.cReader "feed" 3 ["self", "text"] (sp_Reader_feed c)) (D_Screen_do : MethX P w c.K mg base CX0 c.cScreen "do" 9 ["self", "one"] (sp_Screen_do c)) : FnOk P w c.K mg base (L2.CX P w) 10 f fd ["self", "text"] (sp_Screen_feed c) := by
  have nd := sc_Screen_feed.nd
  refine F.okX sc_Screen_feed Rl (fun cdv A outer s H vs Q E hr h => ⟨t_Screen_feed c E, ?_, R vs H Q E h⟩)
  exact (pss_one (ps_for (passes_of rfl) rfl (pi_list (pe_o D_Reader_feed hr (by decide) passE (pe_fld (pv 0) rfl) (pa_cons (pv 1) pa_nil))) (pg_name (i := 2) nd rfl (by first | exact Or.inl rfl | exact Or.inr rfl)) (pss_one (ps_expr (pe_o D_Screen_do hr (by decide) pass0 (pv 0) (pa_cons (pv 2) pa_nil))))))

abbrev M_Screen_do : List Str := ["self", "one"]
theorem sc_Screen_do : FnScope M_Screen_do ["self", "one"] (defScope st_Screen_do) := ⟨rfl, rfl, rfl, by decide +kernel, rfl, by decide +kernel, by decide +kernel⟩
theorem ok_Screen_do {f : Addr} {fd : FuncData} (F : Fun c.K "do" "Screen.do" st_Screen_do f fd) (T : Txt c mg) (R : RD M_Screen_do (t_Screen_do c) (sp_Screen_do c)) (Rl : ∀ vs H Q E, sp_Screen_do c vs H Q E → vs.length = 2) (D_Screen_put : MethX P w c.K mg base CX0 c.cScreen "put" 6 ["self", "sign"] (sp_Screen_put c)) (D_Screen_down : MethX P w c.K mg base CX0 c.cScreen "down" 5 ["self"] (sp_Screen_down c)) (D_Screen_stand : MethX P w c.K mg base CX0 c.cScreen "stand" 1 ["self", "row", "column"] (sp_Screen_stand c)) (D_Screen_small : MethX P w c.K mg base CX0 c.cScreen "small" 6 ["self", "word"] (sp_Screen_small c)) (D_Screen_great : MethX P w c.K mg base CX0 c.cScreen "great" 8 ["self", "word", "numbers"] (sp_Screen_great c)) : FnOk P w c.K mg base CX0 9 f fd ["self", "one"] (sp_Screen_do c) := by
  have nd := sc_Screen_do.nd
  refine F.ok sc_Screen_do Rl (fun cdv A outer s H vs Q E hr h => ⟨t_Screen_do c E, ?_, R vs H Q E h⟩)
  exact (pss_one (ps_if (pt_cmpR (oEq hr.units) (pe_ix iIx (pv 1) pe_int (fun _ _ => rfl)) (pe_sc (by decide +kernel)) (by first | rfl | exact nomark _)) (pss_one (ps_expr (pe_o D_Screen_put hr (by decide) pass0 (pv 0) (pa_cons (pe_ix iIx (pv 1) pe_int (fun _ _ => rfl)) pa_nil)))) (pss_one (ps_if (pt_cmpR (oEq hr.units) (pe_ix iIx (pv 1) pe_int (fun _ _ => rfl)) (pe_sc (by decide +kernel)) (by first | rfl | exact nomark _)) (pss_cons (ps_expr (pe_o0 D_Screen_down hr (by decide) pass0 (pv 0)))
  (pss_one (ps_expr (pe_o D_Screen_stand hr (by decide) pass0 (pv 0) (pa_cons (pe_fld (pv 0) rfl) (pa_cons pe_int pa_nil)))))) (pss_one (ps_if (pt_cmpR oIn (pe_ix iIx (pv 1) pe_int (fun _ _ => rfl)) (pe_gv T.g_SMALL) (by first | rfl | exact nomark _)) (pss_one (ps_expr (pe_o D_Screen_small hr (by decide) pass0 (pv 0) (pa_cons (pe_ix iIx (pv 1) pe_int (fun _ _ => rfl)) pa_nil)))) (pss_one (ps_expr (pe_o D_Screen_great hr (by decide) pass0 (pv 0) (pa_cons (pe_ix iIx (pv 1) pe_int (fun _ _ => rfl)) (pa_cons (pe_ix iIx (pv 1) pe_int (fun _ _ => rfl)) pa_nil)))))))))))

abbrev M_Screen_stand : List Str := ["self", "row", "column"]
theorem sc_Screen_stand : FnScope M_Screen_stand ["self", "row", "column"] (defScope st_Screen_stand) := ⟨rfl, rfl, rfl, by decide +kernel, rfl, by decide +kernel, by decide +kernel⟩
theorem ok_Screen_stand {f : Addr} {fd : FuncData} (F : Fun c.K "stand" "Screen.stand" st_Screen_stand f fd) (T : Txt c mg) (R : RD M_Screen_stand (t_Screen_stand c) (sp_Screen_stand c)) (Rl : ∀ vs H Q E, sp_Screen_stand c vs H Q E → vs.length = 3) : FnOk P w c.K mg base CX0 1 f fd ["self", "row", "column"] (sp_Screen_stand c) := by
  have nd := sc_Screen_stand.nd
  refine F.ok sc_Screen_stand Rl (fun cdv A outer s H vs Q E hr h => ⟨t_Screen_stand c E, ?_, R vs H Q E h⟩)
  exact (pss_cons (ps_fld (pv 0) (pe_callB (cMax rfl) (by rfl) T.b_max (by decide +kernel) (pa_cons pe_int (pa_cons (pe_callB (cMin rfl) (by rfl) T.b_min (by decide +kernel) (pa_cons (pe_op oSub (pe_fld (pv 0) rfl) pe_int) (pa_cons (pv 1) pa_nil))) pa_nil))) rfl)
  (pss_cons (ps_fld (pv 0) (pe_callB (cMax rfl) (by rfl) T.b_max (by decide +kernel) (pa_cons pe_int (pa_cons (pe_callB (cMin rfl) (by rfl) T.b_min (by decide +kernel) (pa_cons (pe_op oSub (pe_fld (pv 0) rfl) pe_int) (pa_cons (pv 2) pa_nil))) pa_nil))) rfl)
  (pss_one (ps_fld (pv 0) pe_bl rfl))))

abbrev M_Screen_put : List Str := ["self", "sign"]
theorem sc_Screen_put : FnScope M_Screen_put ["self", "sign"] (defScope st_Screen_put) := ⟨rfl, rfl, rfl, by decide +kernel, rfl, by decide +kernel, by decide +kernel⟩
theorem ok_Screen_put {f : Addr} {fd : FuncData} (F : Fun c.K "put" "Screen.put" st_Screen_put f fd) (T : Txt c mg) (R : RD M_Screen_put (t_Screen_put c) (sp_Screen_put c)) (Rl : ∀ vs H Q E, sp_Screen_put c vs H Q E → vs.length = 2) (D_Screen_down : MethX P w c.K mg base CX0 c.cScreen "down" 5 ["self"] (sp_Screen_down c)) (D_Screen_stand : MethX P w c.K mg base CX0 c.cScreen "stand" 1 ["self", "row", "column"] (sp_Screen_stand c)) : FnOk P w c.K mg base CX0 6 f fd ["self", "sign"] (sp_Screen_put c) := by
  have nd := sc_Screen_put.nd
  refine F.ok sc_Screen_put Rl (fun cdv A outer s H vs Q E hr h => ⟨t_Screen_put c E, ?_, R vs H Q E h⟩)
  exact (C8.pss_cut (ps_if (pt_val (pe_fld (pv 0) rfl)) (pss_cons (ps_fld (pe_ix iIx (pe_fld (pv 0) rfl) (pe_fld (pv 0) rfl) (fun _ _ => rfl)) (pe_or (pe_cmpR (oEq hr.units) (pe_fld (pv 0) rfl) (pe_fld (pv 0) rfl) (by first | rfl | exact nomark _)) (pe_one (pe_cmpR oLt (pe_fld (pv 0) rfl) (pe_op oSub (pe_fld (pv 0) rfl) pe_int) (by first | rfl | exact nomark _)))) rfl)
  (pss_cons (ps_expr (pe_o0 D_Screen_down hr (by decide) pass0 (pv 0)))
  (pss_one (ps_expr (pe_o D_Screen_stand hr (by decide) pass0 (pv 0) (pa_cons (pe_fld (pv 0) rfl) (pa_cons pe_int pa_nil))))))) pss_nil) (pss_cons (ps_asg (pe_tup (pa_cons (pv 1) (pa_cons (pe_fld (pv 0) rfl) pa_nil))) (pg_sub (pe_fld (pe_ix iIx (pe_fld (pv 0) rfl) (pe_fld (pv 0) rfl) (fun _ _ => rfl)) rfl) (pe_fld (pv 0) rfl) set_list))
  (pss_cons (ps_fld (pv 0) (pv 1) rfl)
  (pss_one (ps_if (pt_cmpR (oEq hr.units) (pe_fld (pv 0) rfl) (pe_op oSub (pe_fld (pv 0) rfl) pe_int) (by first | rfl | exact nomark _)) (pss_one (ps_fld (pv 0) pe_bl rfl)) (pss_one (ps_fld (pv 0) (pe_op oAdd (pe_fld (pv 0) rfl) pe_int) rfl)))))))

abbrev M_Screen_roll : List Str := ["self", "top", "many", "fresh", "at"]
theorem sc_Screen_roll : FnScope M_Screen_roll ["self", "top", "many"] (defScope st_Screen_roll) := ⟨rfl, rfl, rfl, by decide +kernel, rfl, by decide +kernel, by decide +kernel⟩
theorem ok_Screen_roll {f : Addr} {fd : FuncData} (F : Fun c.K "roll" "Screen.roll" st_Screen_roll f fd) (T : Txt c mg) (R : RD M_Screen_roll (t_Screen_roll c) (sp_Screen_roll c)) (Rl : ∀ vs H Q E, sp_Screen_roll c vs H Q E → vs.length = 3) (D_blank_row : DefX P w c.K mg base CX0 "blank_row" 3 ["wide"] (sp_blank_row c)) (D_Screen_cut_off : MethX P w c.K mg base CX0 c.cScreen "cut_off" 1 ["self", "top"] (sp_Screen_cut_off c)) : FnOk P w c.K mg base CX0 4 f fd ["self", "top", "many"] (sp_Screen_roll c) := by
  have nd := sc_Screen_roll.nd
  refine F.ok sc_Screen_roll Rl (fun cdv A outer s H vs Q E hr h => ⟨t_Screen_roll c E, ?_, R vs H Q E h⟩)
  exact (pss_cons (ps_set (i := 2) nd rfl (by first | exact Or.inl rfl | exact Or.inr rfl) (pe_callB (cMin rfl) (by rfl) T.b_min (by decide +kernel) (pa_cons (pv 2) (pa_cons (pe_op oAdd (pe_op oSub (pe_fld (pv 0) rfl) (pv 1)) pe_int) pa_nil))))
  (C8.pss_cut (ps_if (pt_cmpR (oEq hr.units) (pv 1) pe_int (by first | rfl | exact nomark _)) (pss_one (ps_fld (pv 0) (pe_slice sSl (pe_op oAdd (pe_fld (pv 0) rfl) (pe_slice sSl (pe_fld (pv 0) rfl) po_none (po_some (pv 2)))) (po_some (pe_callB (cMax rfl) (by rfl) T.b_max (by decide +kernel) (pa_cons pe_int (pa_cons (pe_op oSub (pe_op oAdd (pe_callB cLen (by rfl) T.b_len (by decide +kernel) (pa_cons (pe_fld (pv 0) rfl) pa_nil)) (pv 2)) (pe_fld (pv 0) rfl)) pa_nil)))) po_none) rfl)) pss_nil) (pss_cons (by first | exact (ps_setLc (i := 3) (own := [("at", 4)]) (g := (gName 4)) (tt := tYes) (te := (tF (sp_blank_row c) E0 (tCons (tFld c.K (tVar 0) "wide") tNil))) rfl nd rfl rfl (sw_true rfl rfl rfl (by decide +kernel)) (pi_range1 (by rfl) T.b_range (pa_cons (pv 2) pa_nil)) (blkOk_by (own := [("at", 4)]) (N := M_Screen_roll) (sc := (defScope st_Screen_roll)) (by decide +kernel)) (fun _ _ _ _ _ => (pg_name (i := 4) nd rfl (by first | exact Or.inl rfl | exact Or.inr rfl))) (fun _ _ _ _ _ => pts_nil) (fun _ _ _ _ _ => (pe_f D_blank_row hr (by decide) pass0 (pa_cons (pe_fld (pv 0) rfl) pa_nil)))) | exact (ps_set (i := 3) nd rfl (by first | exact Or.inl rfl | exact Or.inr rfl) (pe_lc (own := [("at", 4)]) (g := (gName 4)) (tt := tYes) (te := (tF (sp_blank_row c) E0 (tCons (tFld c.K (tVar 0) "wide") tNil))) rfl nd (pi_range1 (by rfl) T.b_range (pa_cons (pv 2) pa_nil)) (blkOk_by (own := [("at", 4)]) (N := M_Screen_roll) (sc := (defScope st_Screen_roll)) (by decide +kernel)) (fun _ _ _ _ _ => (pg_name (i := 4) nd rfl (by first | exact Or.inl rfl | exact Or.inr rfl))) (fun _ _ _ _ _ => pts_nil) (fun _ _ _ _ _ => (pe_f D_blank_row hr (by decide) pass0 (pa_cons (pe_fld (pv 0) rfl) pa_nil))))))
  (pss_cons (ps_fld (pv 0) (pe_op oAdd (pe_op oAdd (pe_op oAdd (pe_slice sSl (pe_fld (pv 0) rfl) po_none (po_some (pv 1))) (pe_slice sSl (pe_fld (pv 0) rfl) (po_some (pe_op oAdd (pv 1) (pv 2))) (po_some (pe_op oAdd (pe_fld (pv 0) rfl) pe_int)))) (pv 3)) (pe_slice sSl (pe_fld (pv 0) rfl) (po_some (pe_op oAdd (pe_fld (pv 0) rfl) pe_int)) po_none)) rfl)
  (pss_one (ps_expr (pe_o D_Screen_cut_off hr (by decide) pass0 (pv 0) (pa_cons (pv 1) pa_nil))))))))

abbrev M_Screen_roll_down : List Str := ["self", "top", "many", "fresh", "at", "left"]
theorem sc_Screen_roll_down : FnScope M_Screen_roll_down ["self", "top", "many"] (defScope st_Screen_roll_down) := ⟨rfl, rfl, rfl, by decide +kernel, rfl, by decide +kernel, by decide +kernel⟩
theorem ok_Screen_roll_down {f : Addr} {fd : FuncData} (F : Fun c.K "roll_down" "Screen.roll_down" st_Screen_roll_down f fd) (T : Txt c mg) (R : RD M_Screen_roll_down (t_Screen_roll_down c) (sp_Screen_roll_down c)) (Rl : ∀ vs H Q E, sp_Screen_roll_down c vs H Q E → vs.length = 3) (D_blank_row : DefX P w c.K mg base CX0 "blank_row" 3 ["wide"] (sp_blank_row c)) (D_Screen_cut_off : MethX P w c.K mg base CX0 c.cScreen "cut_off" 1 ["self", "top"] (sp_Screen_cut_off c)) : FnOk P w c.K mg base CX0 4 f fd ["self", "top", "many"] (sp_Screen_roll_down c) := by
  have nd := sc_Screen_roll_down.nd
  refine F.ok sc_Screen_roll_down Rl (fun cdv A outer s H vs Q E hr h => ⟨t_Screen_roll_down c E, ?_, R vs H Q E h⟩)
  exact (pss_cons (ps_set (i := 2) nd rfl (by first | exact Or.inl rfl | exact Or.inr rfl) (pe_callB (cMin rfl) (by rfl) T.b_min (by decide +kernel) (pa_cons (pv 2) (pa_cons (pe_op oAdd (pe_op oSub (pe_fld (pv 0) rfl) (pv 1)) pe_int) pa_nil))))
  (pss_cons (by first | exact (ps_setLc (i := 3) (own := [("at", 4)]) (g := (gName 4)) (tt := tYes) (te := (tF (sp_blank_row c) E0 (tCons (tFld c.K (tVar 0) "wide") tNil))) rfl nd rfl rfl (sw_true rfl rfl rfl (by decide +kernel)) (pi_range1 (by rfl) T.b_range (pa_cons (pv 2) pa_nil)) (blkOk_by (own := [("at", 4)]) (N := M_Screen_roll_down) (sc := (defScope st_Screen_roll_down)) (by decide +kernel)) (fun _ _ _ _ _ => (pg_name (i := 4) nd rfl (by first | exact Or.inl rfl | exact Or.inr rfl))) (fun _ _ _ _ _ => pts_nil) (fun _ _ _ _ _ => (pe_f D_blank_row hr (by decide) pass0 (pa_cons (pe_fld (pv 0) rfl) pa_nil)))) | exact (ps_set (i := 3) nd rfl (by first | exact Or.inl rfl | exact Or.inr rfl) (pe_lc (own := [("at", 4)]) (g := (gName 4)) (tt := tYes) (te := (tF (sp_blank_row c) E0 (tCons (tFld c.K (tVar 0) "wide") tNil))) rfl nd (pi_range1 (by rfl) T.b_range (pa_cons (pv 2) pa_nil)) (blkOk_by (own := [("at", 4)]) (N := M_Screen_roll_down) (sc := (defScope st_Screen_roll_down)) (by decide +kernel)) (fun _ _ _ _ _ => (pg_name (i := 4) nd rfl (by first | exact Or.inl rfl | exact Or.inr rfl))) (fun _ _ _ _ _ => pts_nil) (fun _ _ _ _ _ => (pe_f D_blank_row hr (by decide) pass0 (pa_cons (pe_fld (pv 0) rfl) pa_nil))))))
  (pss_cons (ps_set (i := 5) nd rfl (by first | exact Or.inl rfl | exact Or.inr rfl) (pe_slice sSl (pe_fld (pv 0) rfl) (po_some (pv 1)) (po_some (pe_op oSub (pe_op oAdd (pe_fld (pv 0) rfl) pe_int) (pv 2)))))
  (pss_cons (ps_fld (pv 0) (pe_op oAdd (pe_op oAdd (pe_op oAdd (pe_slice sSl (pe_fld (pv 0) rfl) po_none (po_some (pv 1))) (pv 3)) (pv 5)) (pe_slice sSl (pe_fld (pv 0) rfl) (po_some (pe_op oAdd (pe_fld (pv 0) rfl) pe_int)) po_none)) rfl)
  (pss_one (ps_expr (pe_o D_Screen_cut_off hr (by decide) pass0 (pv 0) (pa_cons (pv 1) pa_nil))))))))

abbrev M_Screen_cut_off : List Str := ["self", "top", "at"]
theorem sc_Screen_cut_off : FnScope M_Screen_cut_off ["self", "top"] (defScope st_Screen_cut_off) := ⟨rfl, rfl, rfl, by decide +kernel, rfl, by decide +kernel, by decide +kernel⟩
theorem ok_Screen_cut_off {f : Addr} {fd : FuncData} (F : Fun c.K "cut_off" "Screen.cut_off" st_Screen_cut_off f fd) (T : Txt c mg) (R : RD M_Screen_cut_off (t_Screen_cut_off c) (sp_Screen_cut_off c)) (Rl : ∀ vs H Q E, sp_Screen_cut_off c vs H Q E → vs.length = 2) : FnOk P w c.K mg base CX0 1 f fd ["self", "top"] (sp_Screen_cut_off c) := by
  have nd := sc_Screen_cut_off.nd
  refine F.ok sc_Screen_cut_off Rl (fun cdv A outer s H vs Q E hr h => ⟨t_Screen_cut_off c E, ?_, R vs H Q E h⟩)
  exact (pss_one (ps_for PassesOwn.never rfl (pi_tup (pe_tup (pa_cons (pe_op oSub (pv 1) pe_int) (pa_cons (pe_fld (pv 0) rfl) pa_nil)))) (pg_name (i := 2) nd rfl (by first | exact Or.inl rfl | exact Or.inr rfl)) (pss_one (ps_if (pt_cmpR oGe (pv 2) pe_int (by first | rfl | exact nomark _)) (pss_one (ps_fld (pe_ix iIx (pe_fld (pv 0) rfl) (pv 2) (fun _ _ => rfl)) pe_bl rfl)) pss_nil))))

abbrev M_Screen_down : List Str := ["self"]
theorem sc_Screen_down : FnScope M_Screen_down ["self"] (defScope st_Screen_down) := ⟨rfl, rfl, rfl, by decide +kernel, rfl, by decide +kernel, by decide +kernel⟩
theorem ok_Screen_down {f : Addr} {fd : FuncData} (F : Fun c.K "down" "Screen.down" st_Screen_down f fd) (T : Txt c mg) (R : RD M_Screen_down (t_Screen_down c) (sp_Screen_down c)) (Rl : ∀ vs H Q E, sp_Screen_down c vs H Q E → vs.length = 1) (D_Screen_roll : MethX P w c.K mg base CX0 c.cScreen "roll" 4 ["self", "top", "many"] (sp_Screen_roll c)) : FnOk P w c.K mg base CX0 5 f fd ["self"] (sp_Screen_down c) := by
  have nd := sc_Screen_down.nd
  refine F.ok sc_Screen_down Rl (fun cdv A outer s H vs Q E hr h => ⟨t_Screen_down c E, ?_, R vs H Q E h⟩)
  exact (pss_one (ps_if (pt_cmpR (oEq hr.units) (pe_fld (pv 0) rfl) (pe_fld (pv 0) rfl) (by first | rfl | exact nomark _)) (pss_one (ps_expr (pe_o D_Screen_roll hr (by decide) pass0 (pv 0) (pa_cons (pe_fld (pv 0) rfl) (pa_cons pe_int pa_nil))))) (pss_one (ps_if (pt_cmpR oLt (pe_fld (pv 0) rfl) (pe_op oSub (pe_fld (pv 0) rfl) pe_int) (by first | rfl | exact nomark _)) (pss_one (ps_fld (pv 0) (pe_op oAdd (pe_fld (pv 0) rfl) pe_int) rfl)) pss_nil))))

abbrev M_Screen_up : List Str := ["self"]
theorem sc_Screen_up : FnScope M_Screen_up ["self"] (defScope st_Screen_up) := ⟨rfl, rfl, rfl, by decide +kernel, rfl, by decide +kernel, by decide +kernel⟩
theorem ok_Screen_up {f : Addr} {fd : FuncData} (F : Fun c.K "up" "Screen.up" st_Screen_up f fd) (T : Txt c mg) (R : RD M_Screen_up (t_Screen_up c) (sp_Screen_up c)) (Rl : ∀ vs H Q E, sp_Screen_up c vs H Q E → vs.length = 1) (D_Screen_roll_down : MethX P w c.K mg base CX0 c.cScreen "roll_down" 4 ["self", "top", "many"] (sp_Screen_roll_down c)) : FnOk P w c.K mg base CX0 5 f fd ["self"] (sp_Screen_up c) := by
  have nd := sc_Screen_up.nd
  refine F.ok sc_Screen_up Rl (fun cdv A outer s H vs Q E hr h => ⟨t_Screen_up c E, ?_, R vs H Q E h⟩)
  exact (pss_one (ps_if (pt_cmpR (oEq hr.units) (pe_fld (pv 0) rfl) (pe_fld (pv 0) rfl) (by first | rfl | exact nomark _)) (pss_one (ps_expr (pe_o D_Screen_roll_down hr (by decide) pass0 (pv 0) (pa_cons (pe_fld (pv 0) rfl) (pa_cons pe_int pa_nil))))) (pss_one (ps_if (pt_cmpR oGt (pe_fld (pv 0) rfl) pe_int (by first | rfl | exact nomark _)) (pss_one (ps_fld (pv 0) (pe_op oSub (pe_fld (pv 0) rfl) pe_int) rfl)) pss_nil))))

abbrev M_Screen_small : List Str := ["self", "word", "by"]
theorem sc_Screen_small : FnScope M_Screen_small ["self", "word"] (defScope st_Screen_small) := ⟨rfl, rfl, rfl, by decide +kernel, rfl, by decide +kernel, by decide +kernel⟩
theorem ok_Screen_small {f : Addr} {fd : FuncData} (F : Fun c.K "small" "Screen.small" st_Screen_small f fd) (T : Txt c mg) (R : RD M_Screen_small (t_Screen_small c) (sp_Screen_small c)) (Rl : ∀ vs H Q E, sp_Screen_small c vs H Q E → vs.length = 2) (D_Screen_stand : MethX P w c.K mg base CX0 c.cScreen "stand" 1 ["self", "row", "column"] (sp_Screen_stand c)) (D_Screen_down : MethX P w c.K mg base CX0 c.cScreen "down" 5 ["self"] (sp_Screen_down c)) (D_Screen_up : MethX P w c.K mg base CX0 c.cScreen "up" 5 ["self"] (sp_Screen_up c)) (D_Screen_erase : MethX P w c.K mg base CX0 c.cScreen "erase" 4 ["self", "word"] (sp_Screen_erase c)) (D_Screen_begin : MethX P w c.K mg base CX0 c.cScreen "begin" 4 ["self"] (sp_Screen_begin c)) : FnOk P w c.K mg base CX0 6 f fd ["self", "word"] (sp_Screen_small c) := by
  have nd := sc_Screen_small.nd
  refine F.ok sc_Screen_small Rl (fun cdv A outer s H vs Q E hr h => ⟨t_Screen_small c E, ?_, R vs H Q E h⟩)
  exact (pss_one (ps_if (pt_cmpR oIn (pv 1) (pe_tup (pa_cons (pe_sc (by decide +kernel)) (pa_cons (pe_sc (by decide +kernel)) (pa_cons (pe_sc (by decide +kernel)) (pa_cons (pe_sc (by decide +kernel)) pa_nil))))) (by first | rfl | exact nomark _)) (pss_cons (ps_set (i := 2) nd rfl (by first | exact Or.inl rfl | exact Or.inr rfl) (pe_dget (hu_of hr) (pe_disp (pps_cons (pe_sc (by decide +kernel)) (pe_tup (pa_cons (pe_un un_neg pe_int) (pa_cons pe_int pa_nil))) (pps_cons (pe_sc (by decide +kernel)) (pe_tup (pa_cons pe_int (pa_cons pe_int pa_nil))) (pps_cons (pe_sc (by decide +kernel)) (pe_tup (pa_cons pe_int (pa_cons (pe_un un_neg pe_int) pa_nil))) (pps_cons (pe_sc (by decide +kernel)) (pe_tup (pa_cons pe_int (pa_cons pe_int pa_nil))) pps_nil)))) (by rfl) (by rfl) (fun z => by cases z) (by decide)) (pv 1) (fun _ _ => rfl)))
  (pss_one (ps_expr (pe_o D_Screen_stand hr (by decide) pass0 (pv 0) (pa_cons (pe_op oAdd (pe_fld (pv 0) rfl) (pe_ix iIx (pv 2) pe_int (fun _ _ => rfl))) (pa_cons (pe_op oAdd (pe_fld (pv 0) rfl) (pe_ix iIx (pv 2) pe_int (fun _ _ => rfl))) pa_nil)))))) (pss_one (ps_if (pt_cmpR (oEq hr.units) (pv 1) (pe_sc (by decide +kernel)) (by first | rfl | exact nomark _)) (pss_one (ps_expr (pe_o D_Screen_stand hr (by decide) pass0 (pv 0) (pa_cons pe_int (pa_cons pe_int pa_nil))))) (pss_one (ps_if (pt_cmpR oIn (pv 1) (pe_tup (pa_cons (pe_sc (by decide +kernel)) (pa_cons (pe_sc (by decide +kernel)) pa_nil))) (by first | rfl | exact nomark _)) (C8.pss_cut (ps_if (pt_cmpR (oEq hr.units) (pv 1) (pe_sc (by decide +kernel)) (by first | rfl | exact nomark _)) (pss_one (ps_expr (pe_o0 D_Screen_down hr (by decide) pass0 (pv 0)))) (pss_one (ps_expr (pe_o0 D_Screen_up hr (by decide) pass0 (pv 0))))) (pss_one (ps_expr (pe_o D_Screen_stand hr (by decide) pass0 (pv 0) (pa_cons (pe_fld (pv 0) rfl) (pa_cons (pe_fld (pv 0) rfl) pa_nil)))))) (pss_one (ps_if (pt_cmpR oIn (pv 1) (pe_tup (pa_cons (pe_sc (by decide +kernel)) (pa_cons (pe_sc (by decide +kernel)) (pa_cons (pe_sc (by decide +kernel)) (pa_cons (pe_sc (by decide +kernel)) pa_nil))))) (by first | rfl | exact nomark _)) (pss_one (ps_expr (pe_o D_Screen_erase hr (by decide) pass0 (pv 0) (pa_cons (pv 1) pa_nil)))) (pss_one (ps_if (pt_cmpR (oEq hr.units) (pv 1) (pe_sc (by decide +kernel)) (by first | rfl | exact nomark _)) (pss_one (ps_fld (pv 0) (pe_tup (pa_cons (pe_fld (pv 0) rfl) (pa_cons (pe_fld (pv 0) rfl) (pa_cons (pe_fld (pv 0) rfl) pa_nil)))) rfl)) (pss_one (ps_if (pt_cmpR (oEq hr.units) (pv 1) (pe_sc (by decide +kernel)) (by first | rfl | exact nomark _)) (pss_cons (ps_expr (pe_o D_Screen_stand hr (by decide) pass0 (pv 0) (pa_cons (pe_ix iIx (pe_fld (pv 0) rfl) pe_int (fun _ _ => rfl)) (pa_cons (pe_ix iIx (pe_fld (pv 0) rfl) pe_int (fun _ _ => rfl)) pa_nil))))
  (pss_one (ps_fld (pv 0) (pe_ix iIx (pe_fld (pv 0) rfl) pe_int (fun _ _ => rfl)) rfl))) (pss_one (ps_if (pt_cmpR (oEq hr.units) (pv 1) (pe_sc (by decide +kernel)) (by first | rfl | exact nomark _)) (pss_one (ps_expr (pe_o0 D_Screen_begin hr (by decide) pass0 (pv 0)))) pss_nil))))))))))))))

abbrev M_Screen_erase : List Str := ["self", "word", "row", "at"]
theorem sc_Screen_erase : FnScope M_Screen_erase ["self", "word"] (defScope st_Screen_erase) := ⟨rfl, rfl, rfl, by decide +kernel, rfl, by decide +kernel, by decide +kernel⟩
theorem ok_Screen_erase {f : Addr} {fd : FuncData} (F : Fun c.K "erase" "Screen.erase" st_Screen_erase f fd) (T : Txt c mg) (R : RD M_Screen_erase (t_Screen_erase c) (sp_Screen_erase c)) (Rl : ∀ vs H Q E, sp_Screen_erase c vs H Q E → vs.length = 2) (D_blank_row : DefX P w c.K mg base CX0 "blank_row" 3 ["wide"] (sp_blank_row c)) : FnOk P w c.K mg base CX0 4 f fd ["self", "word"] (sp_Screen_erase c) := by
  have nd := sc_Screen_erase.nd
  refine F.ok sc_Screen_erase Rl (fun cdv A outer s H vs Q E hr h => ⟨t_Screen_erase c E, ?_, R vs H Q E h⟩)
  exact (pss_cons (ps_set (i := 2) nd rfl (by first | exact Or.inl rfl | exact Or.inr rfl) (pe_ix iIx (pe_fld (pv 0) rfl) (pe_fld (pv 0) rfl) (fun _ _ => rfl)))
  (C8.pss_cut (ps_if (pt_cmpR (oEq hr.units) (pv 1) (pe_sc (by decide +kernel)) (by first | rfl | exact nomark _)) (pss_one (ps_fld (pv 2) (pe_op oAdd (pe_slice sSl (pe_fld (pv 2) rfl) po_none (po_some (pe_fld (pv 0) rfl))) (pe_op oMul (pe_lst (pa_cons (pe_gv T.g_BLANK) pa_nil)) (pe_op oSub (pe_fld (pv 0) rfl) (pe_fld (pv 0) rfl)))) rfl)) (pss_one (ps_if (pt_cmpR (oEq hr.units) (pv 1) (pe_sc (by decide +kernel)) (by first | rfl | exact nomark _)) (pss_one (ps_fld (pv 2) (pe_op oAdd (pe_op oMul (pe_lst (pa_cons (pe_gv T.g_BLANK) pa_nil)) (pe_op oAdd (pe_fld (pv 0) rfl) pe_int)) (pe_slice sSl (pe_fld (pv 2) rfl) (po_some (pe_op oAdd (pe_fld (pv 0) rfl) pe_int)) po_none)) rfl)) (pss_one (ps_if (pt_cmpR (oEq hr.units) (pv 1) (pe_sc (by decide +kernel)) (by first | rfl | exact nomark _)) (pss_one (ps_fld (pv 2) (pe_op oMul (pe_lst (pa_cons (pe_gv T.g_BLANK) pa_nil)) (pe_fld (pv 0) rfl)) rfl)) (pss_one (ps_fld (pv 0) (pe_lc (own := [("at", 3)]) (g := (gName 3)) (tt := tYes) (te := (tF (sp_blank_row c) E0 (tCons (tFld c.K (tVar 0) "wide") tNil))) rfl nd (pi_range1 (by rfl) T.b_range (pa_cons (pe_fld (pv 0) rfl) pa_nil)) (blkOk_by (own := [("at", 3)]) (N := M_Screen_erase) (sc := (defScope st_Screen_erase)) (by decide +kernel)) (fun _ _ _ _ _ => (pg_name (i := 3) nd rfl (by first | exact Or.inl rfl | exact Or.inr rfl))) (fun _ _ _ _ _ => pts_nil) (fun _ _ _ _ _ => (pe_f D_blank_row hr (by decide) pass0 (pa_cons (pe_fld (pv 0) rfl) pa_nil)))) rfl))))))) (C8.pss_cut (ps_if (pt_cmpR (oNe hr.units) (pv 1) (pe_sc (by decide +kernel)) (by first | rfl | exact nomark _)) (pss_one (ps_fld (pe_ix iIx (pe_fld (pv 0) rfl) (pe_fld (pv 0) rfl) (fun _ _ => rfl)) pe_bl rfl)) pss_nil) (pss_one (ps_fld (pv 0) pe_bl rfl)))))

abbrev M_Screen_great : List Str := ["self", "word", "numbers"]
theorem sc_Screen_great : FnScope M_Screen_great ["self", "word", "numbers"] (defScope st_Screen_great) := ⟨rfl, rfl, rfl, by decide +kernel, rfl, by decide +kernel, by decide +kernel⟩
theorem ok_Screen_great {f : Addr} {fd : FuncData} (F : Fun c.K "great" "Screen.great" st_Screen_great f fd) (T : Txt c mg) (R : RD M_Screen_great (t_Screen_great c) (sp_Screen_great c)) (Rl : ∀ vs H Q E, sp_Screen_great c vs H Q E → vs.length = 3) (D_Screen_stand : MethX P w c.K mg base CX0 c.cScreen "stand" 1 ["self", "row", "column"] (sp_Screen_stand c)) (D_Screen_one : MethX P w c.K mg base CX0 c.cScreen "one" 7 ["self", "word", "number"] (sp_Screen_one c)) : FnOk P w c.K mg base CX0 8 f fd ["self", "word", "numbers"] (sp_Screen_great c) := by
  have nd := sc_Screen_great.nd
  refine F.ok sc_Screen_great Rl (fun cdv A outer s H vs Q E hr h => ⟨t_Screen_great c E, ?_, R vs H Q E h⟩)
  exact (pss_one (ps_if (PW.pt (pw_and (pt_cmpR (oEq hr.units) (pv 1) (pe_sc (by decide +kernel)) (by first | rfl | exact nomark _)) (pw_and1 (pt_cmpR (oEq hr.units) (pe_callB cLen (by rfl) T.b_len (by decide +kernel) (pa_cons (pv 2) pa_nil)) pe_int (by first | rfl | exact nomark _))))) (pss_one (ps_expr (pe_o D_Screen_stand hr (by decide) pass0 (pv 0) (pa_cons (pe_ix iIx (pv 2) pe_int (fun _ _ => rfl)) (pa_cons (pe_ix iIx (pv 2) pe_int (fun _ _ => rfl)) pa_nil))))) (pss_one (ps_if (PW.pt (pw_and (pt_cmpR (oEq hr.units) (pv 1) (pe_sc (by decide +kernel)) (by first | rfl | exact nomark _)) (pw_and1 (pt_cmpR (oEq hr.units) (pe_callB cLen (by rfl) T.b_len (by decide +kernel) (pa_cons (pv 2) pa_nil)) pe_int (by first | rfl | exact nomark _))))) (pss_one (ps_if (pt_chain oLt oLt (pe_ix iIx (pv 2) pe_int (fun _ _ => rfl)) (pe_ix iIx (pv 2) pe_int (fun _ _ => rfl)) (pe_fld (pv 0) rfl)) (pss_cons (ps_asg (pv 2) (pg_tup (by rfl) (pgs_cons (pg_attr (pv 0)) (pgs_cons (pg_attr (pv 0)) pgs_nil))))
  (pss_one (ps_expr (pe_o D_Screen_stand hr (by decide) pass0 (pv 0) (pa_cons pe_int (pa_cons pe_int pa_nil)))))) pss_nil)) (pss_one (ps_if (pt_cmpR (oEq hr.units) (pe_callB cLen (by rfl) T.b_len (by decide +kernel) (pa_cons (pv 2) pa_nil)) pe_int (by first | rfl | exact nomark _)) (pss_one (ps_expr (pe_o D_Screen_one hr (by decide) pass0 (pv 0) (pa_cons (pv 1) (pa_cons (pe_ix iIx (pv 2) pe_int (fun _ _ => rfl)) pa_nil))))) pss_nil))))))

abbrev M_Screen_one : List Str := ["self", "word", "number", "at"]
theorem sc_Screen_one : FnScope M_Screen_one ["self", "word", "number"] (defScope st_Screen_one) := ⟨rfl, rfl, rfl, by decide +kernel, rfl, by decide +kernel, by decide +kernel⟩
theorem ok_Screen_one {f : Addr} {fd : FuncData} (F : Fun c.K "one" "Screen.one" st_Screen_one f fd) (T : Txt c mg) (R : RD M_Screen_one (t_Screen_one c) (sp_Screen_one c)) (Rl : ∀ vs H Q E, sp_Screen_one c vs H Q E → vs.length = 3) (D_Screen_shift : MethX P w c.K mg base CX0 c.cScreen "shift" 1 ["self", "word", "many"] (sp_Screen_shift c)) (D_Screen_take_rows : MethX P w c.K mg base CX0 c.cScreen "take_rows" 5 ["self", "number"] (sp_Screen_take_rows c)) (D_Screen_roll_down : MethX P w c.K mg base CX0 c.cScreen "roll_down" 4 ["self", "top", "many"] (sp_Screen_roll_down c)) (D_Screen_stand : MethX P w c.K mg base CX0 c.cScreen "stand" 1 ["self", "row", "column"] (sp_Screen_stand c)) (D_Screen_put : MethX P w c.K mg base CX0 c.cScreen "put" 6 ["self", "sign"] (sp_Screen_put c)) : FnOk P w c.K mg base CX0 7 f fd ["self", "word", "number"] (sp_Screen_one c) := by
  have nd := sc_Screen_one.nd
  refine F.ok sc_Screen_one Rl (fun cdv A outer s H vs Q E hr h => ⟨t_Screen_one c E, ?_, R vs H Q E h⟩)
  exact (pss_one (ps_if (pt_cmpR oIn (pv 1) (pe_tup (pa_cons (pe_sc (by decide +kernel)) (pa_cons (pe_sc (by decide +kernel)) (pa_cons (pe_sc (by decide +kernel)) pa_nil)))) (by first | rfl | exact nomark _)) (pss_cons (ps_set (i := 3) nd rfl (by first | exact Or.inl rfl | exact Or.inr rfl) (pe_tix (pa_cons (pe_sc (by decide +kernel)) (pa_cons (pe_sc (by decide +kernel)) (pa_cons (pe_sc (by decide +kernel)) pa_nil))) (pa_cons (pv 1) pa_nil)))
  (pss_one (ps_if (pt_cmpR oLe (pv 2) (pe_ix iIx (pe_tup (pa_cons pe_int (pa_cons pe_int (pa_cons pe_int pa_nil)))) (pv 3) (fun _ _ => rfl)) (by first | rfl | exact nomark _)) (pss_one (ps_fld (pv 0) (pe_op oAdd (pe_op oAdd (pe_slice sSl (pe_fld (pv 0) rfl) po_none (po_some (pv 3))) (pe_tup (pa_cons (pv 2) pa_nil))) (pe_slice sSl (pe_fld (pv 0) rfl) (po_some (pe_op oAdd (pv 3) pe_int)) po_none)) rfl)) pss_nil))) (pss_one (ps_if (pt_cmpR oIn (pv 1) (pe_tup (pa_cons (pe_sc (by decide +kernel)) (pa_cons (pe_sc (by decide +kernel)) pa_nil))) (by first | rfl | exact nomark _)) (pss_one (ps_expr (pe_o D_Screen_shift hr (by decide) pass0 (pv 0) (pa_cons (pv 1) (pa_cons (pe_callB (cMin rfl) (by rfl) T.b_min (by decide +kernel) (pa_cons (pv 2) (pa_cons (pe_op oSub (pe_fld (pv 0) rfl) (pe_fld (pv 0) rfl)) pa_nil))) pa_nil))))) (pss_one (ps_if (PW.pt (pw_and (pt_cmpR oIn (pv 1) (pe_tup (pa_cons (pe_sc (by decide +kernel)) (pa_cons (pe_sc (by decide +kernel)) pa_nil))) (by first | rfl | exact nomark _)) (pw_and1 (pt_chain oLe oLe (pe_fld (pv 0) rfl) (pe_fld (pv 0) rfl) (pe_fld (pv 0) rfl))))) (C8.pss_cut (ps_if (pt_cmpR (oEq hr.units) (pv 1) (pe_sc (by decide +kernel)) (by first | rfl | exact nomark _)) (pss_one (ps_expr (pe_o D_Screen_take_rows hr (by decide) pass0 (pv 0) (pa_cons (pv 2) pa_nil)))) (pss_one (ps_expr (pe_o D_Screen_roll_down hr (by decide) pass0 (pv 0) (pa_cons (pe_fld (pv 0) rfl) (pa_cons (pv 2) pa_nil)))))) (pss_one (ps_expr (pe_o D_Screen_stand hr (by decide) pass0 (pv 0) (pa_cons (pe_fld (pv 0) rfl) (pa_cons pe_int pa_nil)))))) (pss_one (ps_if (PW.pt (pw_and (pt_cmpR (oEq hr.units) (pv 1) (pe_sc (by decide +kernel)) (by first | rfl | exact nomark _)) (pw_and1 (pt_cmpR oIsNot (pe_fld (pv 0) rfl) pe_non (by first | rfl | exact nomark _))))) (pss_one (ps_for PassesOwn.never rfl (pi_range1 (by rfl) T.b_range (pa_cons (pe_callB (cMin rfl) (by rfl) T.b_min (by decide +kernel) (pa_cons (pv 2) (pa_cons (pe_op oMul (pe_fld (pv 0) rfl) (pe_fld (pv 0) rfl)) pa_nil))) pa_nil)) (pg_name (i := 3) nd rfl (by first | exact Or.inl rfl | exact Or.inr rfl)) (pss_one (ps_expr (pe_o D_Screen_put hr (by decide) pass0 (pv 0) (pa_cons (pe_fld (pv 0) rfl) pa_nil)))))) pss_nil))))))))

abbrev M_Screen_take_rows : List Str := ["self", "number", "past"]
theorem sc_Screen_take_rows : FnScope M_Screen_take_rows ["self", "number"] (defScope st_Screen_take_rows) := ⟨rfl, rfl, rfl, by decide +kernel, rfl, by decide +kernel, by decide +kernel⟩
theorem ok_Screen_take_rows {f : Addr} {fd : FuncData} (F : Fun c.K "take_rows" "Screen.take_rows" st_Screen_take_rows f fd) (T : Txt c mg) (R : RD M_Screen_take_rows (t_Screen_take_rows c) (sp_Screen_take_rows c)) (Rl : ∀ vs H Q E, sp_Screen_take_rows c vs H Q E → vs.length = 2) (D_Screen_roll : MethX P w c.K mg base CX0 c.cScreen "roll" 4 ["self", "top", "many"] (sp_Screen_roll c)) : FnOk P w c.K mg base CX0 5 f fd ["self", "number"] (sp_Screen_take_rows c) := by
  have nd := sc_Screen_take_rows.nd
  refine F.ok sc_Screen_take_rows Rl (fun cdv A outer s H vs Q E hr h => ⟨t_Screen_take_rows c E, ?_, R vs H Q E h⟩)
  exact (pss_cons (ps_set (i := 2) nd rfl (by first | exact Or.inl rfl | exact Or.inr rfl) (pe_fld (pv 0) rfl))
  (pss_cons (ps_expr (pe_o D_Screen_roll hr (by decide) pass0 (pv 0) (pa_cons (pe_fld (pv 0) rfl) (pa_cons (pv 1) pa_nil))))
  (pss_one (ps_fld (pv 0) (pv 2) rfl))))

abbrev M_Screen_shift : List Str := ["self", "word", "many", "row", "ahead", "rest"]
theorem sc_Screen_shift : FnScope M_Screen_shift ["self", "word", "many"] (defScope st_Screen_shift) := ⟨rfl, rfl, rfl, by decide +kernel, rfl, by decide +kernel, by decide +kernel⟩
theorem ok_Screen_shift {f : Addr} {fd : FuncData} (F : Fun c.K "shift" "Screen.shift" st_Screen_shift f fd) (T : Txt c mg) (R : RD M_Screen_shift (t_Screen_shift c) (sp_Screen_shift c)) (Rl : ∀ vs H Q E, sp_Screen_shift c vs H Q E → vs.length = 3) : FnOk P w c.K mg base CX0 1 f fd ["self", "word", "many"] (sp_Screen_shift c) := by
  have nd := sc_Screen_shift.nd
  refine F.ok sc_Screen_shift Rl (fun cdv A outer s H vs Q E hr h => ⟨t_Screen_shift c E, ?_, R vs H Q E h⟩)
  exact (pss_cons (ps_set (i := 3) nd rfl (by first | exact Or.inl rfl | exact Or.inr rfl) (pe_ix iIx (pe_fld (pv 0) rfl) (pe_fld (pv 0) rfl) (fun _ _ => rfl)))
  (pss_cons (ps_par (i := 4) (j := 5) (by rfl) nd rfl rfl (by decide) rfl rfl (pa_cons (pe_slice sSl (pe_fld (pv 3) rfl) po_none (po_some (pe_fld (pv 0) rfl))) (pa_cons (pe_slice sSl (pe_fld (pv 3) rfl) (po_some (pe_fld (pv 0) rfl)) po_none) pa_nil)) (by rfl))
  (C8.pss_cut (ps_if (pt_cmpR (oEq hr.units) (pv 1) (pe_sc (by decide +kernel)) (by first | rfl | exact nomark _)) (pss_one (ps_fld (pv 3) (pe_op oAdd (pe_op oAdd (pv 4) (pe_slice sSl (pv 5) (po_some (pv 2)) po_none)) (pe_op oMul (pe_lst (pa_cons (pe_gv T.g_BLANK) pa_nil)) (pv 2))) rfl)) (pss_one (ps_fld (pv 3) (pe_op oAdd (pe_op oAdd (pv 4) (pe_op oMul (pe_lst (pa_cons (pe_gv T.g_BLANK) pa_nil)) (pv 2))) (pe_slice sSl (pv 5) po_none (po_some (pe_op oSub (pe_callB cLen (by rfl) T.b_len (by decide +kernel) (pa_cons (pv 5) pa_nil)) (pv 2))))) rfl))) (pss_cons (ps_fld (pv 3) pe_bl rfl)
  (pss_one (ps_fld (pv 0) pe_bl rfl))))))

abbrev M_Line_init : List Str := ["self", "cells", "place"]
theorem sc_Line_init : FnScope M_Line_init ["self", "cells", "place"] (defScope st_Line_init) := ⟨rfl, rfl, rfl, by decide +kernel, rfl, by decide +kernel, by decide +kernel⟩
theorem ok_Line_init {f : Addr} {fd : FuncData} (F : Fun c.K "__init__" "Line.__init__" st_Line_init f fd) (T : Txt c mg) (R : RD M_Line_init (t_Line_init c) (sp_Line_init c)) (Rl : ∀ vs H Q E, sp_Line_init c vs H Q E → vs.length = 3) : FnOk P w c.K mg base CX0 1 f fd ["self", "cells", "place"] (sp_Line_init c) := by
  have nd := sc_Line_init.nd
  refine F.ok sc_Line_init Rl (fun cdv A outer s H vs Q E hr h => ⟨t_Line_init c E, ?_, R vs H Q E h⟩)
  exact (pss_cons (ps_fld (pv 0) (pv 1) rfl)
  (pss_one (ps_fld (pv 0) (pv 2) rfl)))

abbrev M_is_blank : List Str := ["row", "cell"]
theorem sc_is_blank : FnScope M_is_blank ["row"] (defScope st_is_blank) := ⟨rfl, rfl, rfl, by decide +kernel, rfl, by decide +kernel, by decide +kernel⟩
theorem ok_is_blank {f : Addr} {fd : FuncData} (F : Fun c.K "is_blank" "is_blank" st_is_blank f fd) (T : Txt c mg) (R : RD M_is_blank (t_is_blank c) (sp_is_blank c)) (Rl : ∀ vs H Q E, sp_is_blank c vs H Q E → vs.length = 1) : FnOk P w c.K mg base CX0 1 f fd ["row"] (sp_is_blank c) := by
  have nd := sc_is_blank.nd
  refine F.ok sc_is_blank Rl (fun cdv A outer s H vs Q E hr h => ⟨t_is_blank c E, ?_, R vs H Q E h⟩)
  exact (pss_one (ps_ret (pe_callB (cr_all rfl) (by rfl) T.b_all (by decide +kernel) (pa_cons (pe_lc (own := [("cell", 1)]) (g := (gName 1)) (tt := tYes) (te := (tOp (uEq c.K) (tVar 1) (tC (v_BLANK c)))) rfl nd (pi_list (pe_fld (pv 0) rfl)) (blkOk_by (own := [("cell", 1)]) (N := M_is_blank) (sc := (defScope st_is_blank)) (by decide +kernel)) (fun _ _ _ _ _ => (pg_name (i := 1) nd rfl (by first | exact Or.inl rfl | exact Or.inr rfl))) (fun _ _ _ _ _ => pts_nil) (fun _ _ _ _ _ => (pe_cmpR (oEq hr.units) (pv 1) (pe_gv T.g_BLANK) (by first | rfl | exact nomark _)))) pa_nil))))

abbrev M_trimmed : List Str := ["cells", "least", "many"]
theorem sc_trimmed : FnScope M_trimmed ["cells", "least"] (defScope st_trimmed) := ⟨rfl, rfl, rfl, by decide +kernel, rfl, by decide +kernel, by decide +kernel⟩
theorem ok_trimmed {f : Addr} {fd : FuncData} (F : Fun c.K "trimmed" "trimmed" st_trimmed f fd) (T : Txt c mg) (R : RD M_trimmed (t_trimmed c) (sp_trimmed c)) (Rl : ∀ vs H Q E, sp_trimmed c vs H Q E → vs.length = 2) : FnOk P w c.K mg base CX0 1 f fd ["cells", "least"] (sp_trimmed c) := by
  have nd := sc_trimmed.nd
  refine F.ok sc_trimmed Rl (fun cdv A outer s H vs Q E hr h => ⟨t_trimmed c E, ?_, R vs H Q E h⟩)
  exact (pss_cons (ps_set (i := 2) nd rfl (by first | exact Or.inl rfl | exact Or.inr rfl) (pe_callB cLen (by rfl) T.b_len (by decide +kernel) (pa_cons (pv 0) pa_nil)))
  (pss_cons (ps_while PassesOwn.never (PW.pt (pw_and (pt_cmpR oGt (pv 2) (pv 1) (by first | rfl | exact nomark _)) (pw_and1 (pt_cmpR (oEq hr.units) (pe_ix iIx (pv 0) (pe_op oSub (pv 2) pe_int) (fun _ _ => rfl)) (pe_gv T.g_BLANK) (by first | rfl | exact nomark _))))) (pss_one (ps_set (i := 2) nd rfl (by first | exact Or.inl rfl | exact Or.inr rfl) (pe_op oSub (pv 2) pe_int))))
  (pss_one (ps_ret (pe_slice sSl (pv 0) po_none (po_some (pv 2)))))))

abbrev M_lines_of : List Str := ["screen", "rows", "here", "last", "found", "is_open", "at", "row"]
theorem sc_lines_of : FnScope M_lines_of ["screen"] (defScope st_lines_of) := ⟨rfl, rfl, rfl, by decide +kernel, rfl, by decide +kernel, by decide +kernel⟩
theorem ok_lines_of {f : Addr} {fd : FuncData} (F : Fun c.K "lines_of" "lines_of" st_lines_of f fd) (T : Txt c mg) (R : RD M_lines_of (t_lines_of c) (sp_lines_of c)) (Rl : ∀ vs H Q E, sp_lines_of c vs H Q E → vs.length = 1) (D_is_blank : DefX P w c.K mg base CX0 "is_blank" 1 ["row"] (sp_is_blank c)) (D_Line_init : InitX P w c.K mg base CX0 "Line" c.cLine 1 ["self", "cells", "place"] (sp_Line_init c)) : FnOk P w c.K mg base CX0 3 f fd ["screen"] (sp_lines_of c) := by
  have nd := sc_lines_of.nd
  refine F.ok sc_lines_of Rl (fun cdv A outer s H vs Q E hr h => ⟨t_lines_of c E, ?_, R vs H Q E h⟩)
  exact (pss_cons (ps_set (i := 1) nd rfl (by first | exact Or.inl rfl | exact Or.inr rfl) (pe_op oAdd (pe_fld (pv 0) rfl) (pe_fld (pv 0) rfl)))
  (pss_cons (ps_set (i := 2) nd rfl (by first | exact Or.inl rfl | exact Or.inr rfl) (pe_op oAdd (pe_callB cLen (by rfl) T.b_len (by decide +kernel) (pa_cons (pe_fld (pv 0) rfl) pa_nil)) (pe_fld (pv 0) rfl)))
  (pss_cons (ps_set (i := 3) nd rfl (by first | exact Or.inl rfl | exact Or.inr rfl) (pe_callB cLen (by rfl) T.b_len (by decide +kernel) (pa_cons (pv 1) pa_nil)))
  (pss_cons (ps_while PassesOwn.never (PW.pt (pw_and (pt_cmpR oGt (pe_op oSub (pv 3) pe_int) (pv 2) (by first | rfl | exact nomark _)) (pw_and1 (pt_val (pe_f D_is_blank hr (by decide) pass0 (pa_cons (pe_ix iIx (pv 1) (pe_op oSub (pv 3) pe_int) (fun _ _ => rfl)) pa_nil)))))) (pss_one (ps_set (i := 3) nd rfl (by first | exact Or.inl rfl | exact Or.inr rfl) (pe_op oSub (pv 3) pe_int))))
  (pss_cons (ps_set (i := 4) nd rfl (by first | exact Or.inl rfl | exact Or.inr rfl) (pe_lst pa_nil))
  (pss_cons (ps_set (i := 5) nd rfl (by first | exact Or.inl rfl | exact Or.inr rfl) pe_bl)
  (pss_cons (ps_for PassesOwn.never rfl (pi_enum (by rfl) T.b_enumerate (pa_cons (pe_slice sSl (pv 1) po_none (po_some (pv 3))) pa_nil)) (pg_tup (by rfl) (pgs_cons (pg_name (i := 6) nd rfl (by first | exact Or.inl rfl | exact Or.inr rfl)) (pgs_cons (pg_name (i := 7) nd rfl (by first | exact Or.inl rfl | exact Or.inr rfl)) pgs_nil))) (pss_cons (ps_if (pt_not (pt_val (pv 5))) (pss_one (ps_expr (pe_bm PySem.F.plainAttrs_list PySem.F.slot_list_append PySem.F.type_list_append mt_append (pv 4) (pa_cons (pe_n D_Line_init hr (by decide) pass0 (pa_cons (pe_lst pa_nil) (pa_cons pe_non pa_nil))) pa_nil)))) pss_nil)
  (pss_cons (ps_if (pt_cmpR (oEq hr.units) (pv 6) (pv 2) (by first | rfl | exact nomark _)) (pss_one (ps_fld (pe_ix iIx (pv 4) (pe_un un_neg pe_int) (fun _ _ => rfl)) (pe_op oAdd (pe_op oAdd (pe_callB cLen (by rfl) T.b_len (by decide +kernel) (pa_cons (pe_fld (pe_ix iIx (pv 4) (pe_un un_neg pe_int) (fun _ _ => rfl)) rfl) pa_nil)) (pe_fld (pv 0) rfl)) (pe_callTy cInt (by rfl) T.b_int (by decide +kernel) (pa_cons (pe_fld (pv 0) rfl) pa_nil))) rfl)) pss_nil)
  (pss_cons (ps_fld (pe_ix iIx (pv 4) (pe_un un_neg pe_int) (fun _ _ => rfl)) (pe_op oAdd (pe_fld (pe_ix iIx (pv 4) (pe_un un_neg pe_int) (fun _ _ => rfl)) rfl) (pe_fld (pv 7) rfl)) rfl)
  (pss_one (ps_set (i := 5) nd rfl (by first | exact Or.inl rfl | exact Or.inr rfl) (pe_fld (pv 7) rfl)))))))
  (pss_one (ps_ret (pv 4))))))))))

abbrev M_laid : List Str := ["line", "wide", "least", "cells", "rows", "at", "part"]
theorem sc_laid : FnScope M_laid ["line", "wide"] (defScope st_laid) := ⟨rfl, rfl, rfl, by decide +kernel, rfl, by decide +kernel, by decide +kernel⟩
theorem ok_laid {f : Addr} {fd : FuncData} (F : Fun c.K "laid" "laid" st_laid f fd) (T : Txt c mg) (R : RD M_laid (t_laid c) (sp_laid c)) (Rl : ∀ vs H Q E, sp_laid c vs H Q E → vs.length = 2) (D_trimmed : DefX P w c.K mg base CX0 "trimmed" 1 ["cells", "least"] (sp_trimmed c)) (D_Row_init : InitX P w c.K mg base CX0 "Row" c.cRow 1 ["self", "cells", "goes_on"] (sp_Row_init c)) : FnOk P w c.K mg base CX0 3 f fd ["line", "wide"] (sp_laid c) := by
  have nd := sc_laid.nd
  refine F.ok sc_laid Rl (fun cdv A outer s H vs Q E hr h => ⟨t_laid c E, ?_, R vs H Q E h⟩)
  exact (pss_cons (ps_set (i := 2) nd rfl (by first | exact Or.inl rfl | exact Or.inr rfl) (pe_ifExp (pt_cmpR oIs (pe_fld (pv 0) rfl) pe_non (by first | rfl | exact nomark _)) pe_int (pe_fld (pv 0) rfl)))
  (pss_cons (ps_set (i := 3) nd rfl (by first | exact Or.inl rfl | exact Or.inr rfl) (pe_f D_trimmed hr (by decide) pass0 (pa_cons (pe_fld (pv 0) rfl) (pa_cons (pe_callB (cMin rfl) (by rfl) T.b_min (by decide +kernel) (pa_cons (pv 2) (pa_cons (pe_callB cLen (by rfl) T.b_len (by decide +kernel) (pa_cons (pe_fld (pv 0) rfl) pa_nil)) pa_nil))) pa_nil))))
  (pss_cons (ps_set (i := 4) nd rfl (by first | exact Or.inl rfl | exact Or.inr rfl) (pe_lst pa_nil))
  (pss_cons (ps_for PassesOwn.never rfl (pi_range3 (by rfl) T.b_range (pa_cons pe_int (pa_cons (pe_callB (cMax rfl) (by rfl) T.b_max (by decide +kernel) (pa_cons pe_int (pa_cons (pe_callB cLen (by rfl) T.b_len (by decide +kernel) (pa_cons (pv 3) pa_nil)) pa_nil))) (pa_cons (pv 1) pa_nil)))) (pg_name (i := 5) nd rfl (by first | exact Or.inl rfl | exact Or.inr rfl)) (pss_cons (ps_set (i := 6) nd rfl (by first | exact Or.inl rfl | exact Or.inr rfl) (pe_slice sSl (pv 3) (po_some (pv 5)) (po_some (pe_op oAdd (pv 5) (pv 1)))))
  (pss_one (ps_expr (pe_bm PySem.F.plainAttrs_list PySem.F.slot_list_append PySem.F.type_list_append mt_append (pv 4) (pa_cons (pe_n D_Row_init hr (by decide) pass0 (pa_cons (pe_op oAdd (pv 6) (pe_op oMul (pe_lst (pa_cons (pe_gv T.g_BLANK) pa_nil)) (pe_op oSub (pv 1) (pe_callB cLen (by rfl) T.b_len (by decide +kernel) (pa_cons (pv 6) pa_nil))))) (pa_cons (pe_cmpR oLt (pe_op oAdd (pv 5) (pv 1)) (pe_callB cLen (by rfl) T.b_len (by decide +kernel) (pa_cons (pv 3) pa_nil)) (by first | rfl | exact nomark _)) pa_nil))) pa_nil))))))
  (pss_cons (ps_if (pt_cmpR oIs (pe_fld (pv 0) rfl) pe_non (by first | rfl | exact nomark _)) (pss_one (ps_ret (pe_tup (pa_cons (pv 4) (pa_cons pe_non pa_nil))))) pss_nil)
  (pss_cons (ps_if (pt_cmpR (oEq hr.units) (pe_fld (pv 0) rfl) (pe_op oMul (pe_callB cLen (by rfl) T.b_len (by decide +kernel) (pa_cons (pv 4) pa_nil)) (pv 1)) (by first | rfl | exact nomark _)) (pss_one (ps_ret (pe_tup (pa_cons (pv 4) (pa_cons (pe_tup (pa_cons (pe_op oSub (pe_callB cLen (by rfl) T.b_len (by decide +kernel) (pa_cons (pv 4) pa_nil)) pe_int) (pa_cons (pe_op oSub (pv 1) pe_int) (pa_cons pe_bl pa_nil)))) pa_nil))))) pss_nil)
  (pss_one (ps_ret (pe_tup (pa_cons (pv 4) (pa_cons (pe_tup (pa_cons (pe_op oDiv (pe_fld (pv 0) rfl) (pv 1)) (pa_cons (pe_op oMod (pe_fld (pv 0) rfl) (pv 1)) (pa_cons pe_bl pa_nil)))) pa_nil)))))))))))

abbrev M_all_laid : List Str := ["screen", "wide", "rows", "cursor", "line", "some", "place"]
theorem sc_all_laid : FnScope M_all_laid ["screen", "wide"] (defScope st_all_laid) := ⟨rfl, rfl, rfl, by decide +kernel, rfl, by decide +kernel, by decide +kernel⟩
theorem ok_all_laid {f : Addr} {fd : FuncData} (F : Fun c.K "all_laid" "all_laid" st_all_laid f fd) (T : Txt c mg) (R : RD M_all_laid (t_all_laid c) (sp_all_laid c)) (Rl : ∀ vs H Q E, sp_all_laid c vs H Q E → vs.length = 2) (D_lines_of : DefX P w c.K mg base CX0 "lines_of" 3 ["screen"] (sp_lines_of c)) (D_laid : DefX P w c.K mg base CX0 "laid" 3 ["line", "wide"] (sp_laid c)) : FnOk P w c.K mg base CX0 4 f fd ["screen", "wide"] (sp_all_laid c) := by
  have nd := sc_all_laid.nd
  refine F.ok sc_all_laid Rl (fun cdv A outer s H vs Q E hr h => ⟨t_all_laid c E, ?_, R vs H Q E h⟩)
  exact (pss_cons (ps_set (i := 2) nd rfl (by first | exact Or.inl rfl | exact Or.inr rfl) (pe_lst pa_nil))
  (pss_cons (ps_set (i := 3) nd rfl (by first | exact Or.inl rfl | exact Or.inr rfl) pe_non)
  (pss_cons (ps_for PassesOwn.never rfl (pi_list (pe_f D_lines_of hr (by decide) pass0 (pa_cons (pv 0) pa_nil))) (pg_name (i := 4) nd rfl (by first | exact Or.inl rfl | exact Or.inr rfl)) (pss_cons (ps_asg (pe_f D_laid hr (by decide) pass0 (pa_cons (pv 4) (pa_cons (pv 1) pa_nil))) (pg_tup (by rfl) (pgs_cons (pg_name (i := 5) nd rfl (by first | exact Or.inl rfl | exact Or.inr rfl)) (pgs_cons (pg_name (i := 6) nd rfl (by first | exact Or.inl rfl | exact Or.inr rfl)) pgs_nil))))
  (pss_cons (ps_if (pt_cmpR oIsNot (pv 6) pe_non (by first | rfl | exact nomark _)) (pss_one (ps_set (i := 3) nd rfl (by first | exact Or.inl rfl | exact Or.inr rfl) (pe_tup (pa_cons (pe_op oAdd (pe_callB cLen (by rfl) T.b_len (by decide +kernel) (pa_cons (pv 2) pa_nil)) (pe_ix iIx (pv 6) pe_int (fun _ _ => rfl))) (pa_cons (pe_ix iIx (pv 6) pe_int (fun _ _ => rfl)) (pa_cons (pe_ix iIx (pv 6) pe_int (fun _ _ => rfl)) pa_nil)))))) pss_nil)
  (pss_one (ps_set (i := 2) nd rfl (by first | exact Or.inl rfl | exact Or.inr rfl) (pe_op oAdd (pv 2) (pv 5)))))))
  (pss_one (ps_ret (pe_tup (pa_cons (pv 2) (pa_cons (pv 3) pa_nil))))))))

abbrev M_resize : List Str := ["screen", "wide", "high", "rows", "cursor", "first", "shown", "at"]
theorem sc_resize : FnScope M_resize ["screen", "wide", "high"] (defScope st_resize) := ⟨rfl, rfl, rfl, by decide +kernel, rfl, by decide +kernel, by decide +kernel⟩
theorem ok_resize {f : Addr} {fd : FuncData} (F : Fun c.K "resize" "resize" st_resize f fd) (T : Txt c mg) (R : RD M_resize (t_resize c) (sp_resize c)) (Rl : ∀ vs H Q E, sp_resize c vs H Q E → vs.length = 3) (D_need_size : DefX P w c.K mg base (L2.CX P w) "need_size" 1 ["good"] (sp_need_size c)) (D_is_count : DefX P w c.K mg base CX0 "is_count" 1 ["thing", "least", "most"] (sp_is_count c)) (D_all_laid : DefX P w c.K mg base CX0 "all_laid" 4 ["screen", "wide"] (sp_all_laid c)) (D_blank_row : DefX P w c.K mg base CX0 "blank_row" 3 ["wide"] (sp_blank_row c)) (D_Screen_stand : MethX P w c.K mg base CX0 c.cScreen "stand" 1 ["self", "row", "column"] (sp_Screen_stand c)) : FnOk P w c.K mg base (L2.CX P w) 5 f fd ["screen", "wide", "high"] (sp_resize c) := by
  have nd := sc_resize.nd
  refine F.okX sc_resize Rl (fun cdv A outer s H vs Q E hr h => ⟨t_resize c E, ?_, R vs H Q E h⟩)
  exact (pss_cons (ps_expr (pe_f D_need_size hr (by decide) passE (pa_cons (pe_and (pe_f D_is_count hr (by decide) pass0 (pa_cons (pv 1) (pa_cons (pe_gv T.g_LEAST_WIDE) (pa_cons (pe_gv T.g_MOST_WIDE) pa_nil)))) (pe_one (pe_f D_is_count hr (by decide) pass0 (pa_cons (pv 2) (pa_cons (pe_gv T.g_LEAST_HIGH) (pa_cons (pe_gv T.g_MOST_HIGH) pa_nil)))))) pa_nil)))
  (pss_cons (ps_asg (pe_f D_all_laid hr (by decide) pass0 (pa_cons (pv 0) (pa_cons (pv 1) pa_nil))) (pg_tup (by rfl) (pgs_cons (pg_name (i := 3) nd rfl (by first | exact Or.inl rfl | exact Or.inr rfl)) (pgs_cons (pg_name (i := 4) nd rfl (by first | exact Or.inl rfl | exact Or.inr rfl)) pgs_nil))))
  (pss_cons (ps_set (i := 5) nd rfl (by first | exact Or.inl rfl | exact Or.inr rfl) (pe_callB (cMax rfl) (by rfl) T.b_max (by decide +kernel) (pa_cons pe_int (pa_cons (pe_op oSub (pe_callB cLen (by rfl) T.b_len (by decide +kernel) (pa_cons (pv 3) pa_nil)) (pv 2)) pa_nil))))
  (pss_cons (ps_set (i := 5) nd rfl (by first | exact Or.inl rfl | exact Or.inr rfl) (pe_callB (cMin rfl) (by rfl) T.b_min (by decide +kernel) (pa_cons (pv 5) (pa_cons (pe_ix iIx (pv 4) pe_int (fun _ _ => rfl)) pa_nil))))
  (pss_cons (ps_set (i := 6) nd rfl (by first | exact Or.inl rfl | exact Or.inr rfl) (pe_slice sSl (pv 3) (po_some (pv 5)) (po_some (pe_op oAdd (pv 5) (pv 2)))))
  (pss_cons (ps_fld (pv 0) (pe_slice sSl (pe_slice sSl (pv 3) po_none (po_some (pv 5))) (po_some (pe_callB (cMax rfl) (by rfl) T.b_max (by decide +kernel) (pa_cons pe_int (pa_cons (pe_op oSub (pv 5) (pe_fld (pv 0) rfl)) pa_nil)))) po_none) rfl)
  (pss_cons (ps_fld (pv 0) (pe_op oAdd (pv 6) (pe_lc (own := [("at", 7)]) (g := (gName 7)) (tt := tYes) (te := (tF (sp_blank_row c) E0 (tCons (tVar 1) tNil))) rfl nd (pi_range1 (by rfl) T.b_range (pa_cons (pe_op oSub (pv 2) (pe_callB cLen (by rfl) T.b_len (by decide +kernel) (pa_cons (pv 6) pa_nil))) pa_nil)) (blkOk_by (own := [("at", 7)]) (N := M_resize) (sc := (defScope st_resize)) (by decide +kernel)) (fun _ _ _ _ _ => (pg_name (i := 7) nd rfl (by first | exact Or.inl rfl | exact Or.inr rfl))) (fun _ _ _ _ _ => pts_nil) (fun _ _ _ _ _ => (pe_f D_blank_row hr (by decide) pass0 (pa_cons (pv 1) pa_nil))))) rfl)
  (pss_cons (ps_fld (pv 0) (pv 1) rfl)
  (pss_cons (ps_fld (pv 0) (pv 2) rfl)
  (pss_cons (ps_fld (pv 0) pe_int rfl)
  (pss_cons (ps_fld (pv 0) (pe_op oSub (pv 2) pe_int) rfl)
  (pss_cons (ps_fld (pe_ix iIx (pe_fld (pv 0) rfl) (pe_op oSub (pv 2) pe_int) (fun _ _ => rfl)) pe_bl rfl)
  (pss_cons (ps_fld (pv 0) (pe_tup (pa_cons (pe_callB (cMin rfl) (by rfl) T.b_min (by decide +kernel) (pa_cons (pe_ix iIx (pe_fld (pv 0) rfl) pe_int (fun _ _ => rfl)) (pa_cons (pe_op oSub (pv 2) pe_int) pa_nil))) (pa_cons (pe_callB (cMin rfl) (by rfl) T.b_min (by decide +kernel) (pa_cons (pe_ix iIx (pe_fld (pv 0) rfl) pe_int (fun _ _ => rfl)) (pa_cons (pe_op oSub (pv 1) pe_int) pa_nil))) (pa_cons (pe_ix iIx (pe_fld (pv 0) rfl) pe_int (fun _ _ => rfl)) pa_nil)))) rfl)
  (pss_cons (ps_expr (pe_o D_Screen_stand hr (by decide) pass0 (pv 0) (pa_cons (pe_op oSub (pe_ix iIx (pv 4) pe_int (fun _ _ => rfl)) (pv 5)) (pa_cons (pe_ix iIx (pv 4) pe_int (fun _ _ => rfl)) pa_nil))))
  (pss_one (ps_fld (pv 0) (pe_ix iIx (pv 4) pe_int (fun _ _ => rfl)) rfl))))))))))))))))

abbrev M__law_cell : List Str := ["_law_script", "_law_k"]
theorem sc__law_cell : FnScope M__law_cell ["_law_script", "_law_k"] (defScope st__law_cell) := ⟨rfl, rfl, rfl, by decide +kernel, rfl, by decide +kernel, by decide +kernel⟩
theorem ok__law_cell {f : Addr} {fd : FuncData} (F : Fun c.K "_law_cell" "_law_cell" st__law_cell f fd) (T : Txt c mg) (R : RD M__law_cell (t__law_cell c) (sp__law_cell c)) (Rl : ∀ vs H Q E, sp__law_cell c vs H Q E → vs.length = 2) : FnOk P w c.K mg base CX0 1 f fd ["_law_script", "_law_k"] (sp__law_cell c) := by
  have nd := sc__law_cell.nd
  refine F.ok sc__law_cell Rl (fun cdv A outer s H vs Q E hr h => ⟨t__law_cell c E, ?_, R vs H Q E h⟩)
  exact (pss_cons (ps_if (pt_cmpR (oEq hr.units) (pv 0) (pe_lst pa_nil) (by first | rfl | exact nomark _)) (pss_one (ps_ret (pe_op oMul (pv 1) pe_int))) pss_nil)
  (pss_one (ps_ret (pe_op oAdd (pe_ix iIx (pv 0) (pe_op oMod (pv 1) (pe_callB cLen (by rfl) T.b_len (by decide +kernel) (pa_cons (pv 0) pa_nil))) (fun _ _ => rfl)) (pe_op oMul (pe_op oDiv (pv 1) (pe_callB cLen (by rfl) T.b_len (by decide +kernel) (pa_cons (pv 0) pa_nil))) pe_int)))))

abbrev M__law_drawn : List Str := ["_law_cell_here", "_law_k", "_law_more"]
theorem sc__law_drawn : FnScope M__law_drawn ["_law_cell_here", "_law_k"] (defScope st__law_drawn) := ⟨rfl, rfl, rfl, by decide +kernel, rfl, by decide +kernel, by decide +kernel⟩
theorem ok__law_drawn {f : Addr} {fd : FuncData} (F : Fun c.K "_law_drawn" "_law_drawn" st__law_drawn f fd) (T : Txt c mg) (R : RD M__law_drawn (t__law_drawn c) (sp__law_drawn c)) (Rl : ∀ vs H Q E, sp__law_drawn c vs H Q E → vs.length = 2) : FnOk P w c.K mg base CX0 1 f fd ["_law_cell_here", "_law_k"] (sp__law_drawn c) := by
  have nd := sc__law_drawn.nd
  refine F.ok sc__law_drawn Rl (fun cdv A outer s H vs Q E hr h => ⟨t__law_drawn c E, ?_, R vs H Q E h⟩)
  exact (pss_cons (ps_set (i := 2) nd rfl (by first | exact Or.inl rfl | exact Or.inr rfl) (pe_op oMod (pe_op oAdd (pe_op oMul (pv 0) pe_int) (pe_op oMul (pe_op oAdd (pv 1) pe_int) pe_int)) pe_int))
  (pss_cons (ps_set (i := 2) nd rfl (by first | exact Or.inl rfl | exact Or.inr rfl) (pe_op oMod (pe_op oMul (pv 2) (pv 2)) pe_int))
  (pss_cons (ps_set (i := 2) nd rfl (by first | exact Or.inl rfl | exact Or.inr rfl) (pe_op oMul (pe_op oMul (pe_op oAdd (pe_op oMod (pv 2) pe_int) pe_int) (pe_op oAdd (pe_op oDiv (pv 2) pe_int) pe_int)) (pv 2)))
  (pss_one (ps_ret (pe_op oMod (pv 2) pe_int))))))

abbrev M__law_rows : List Str := ["_law_lines", "_law_wide", "_law_found", "_law_line", "_law_at"]
theorem sc__law_rows : FnScope M__law_rows ["_law_lines", "_law_wide"] (defScope st__law_rows) := ⟨rfl, rfl, rfl, by decide +kernel, rfl, by decide +kernel, by decide +kernel⟩
theorem ok__law_rows {f : Addr} {fd : FuncData} (F : Fun c.K "_law_rows" "_law_rows" st__law_rows f fd) (T : Txt c mg) (R : RD M__law_rows (t__law_rows c) (sp__law_rows c)) (Rl : ∀ vs H Q E, sp__law_rows c vs H Q E → vs.length = 2) : FnOk P w c.K mg base CX0 1 f fd ["_law_lines", "_law_wide"] (sp__law_rows c) := by
  have nd := sc__law_rows.nd
  refine F.ok sc__law_rows Rl (fun cdv A outer s H vs Q E hr h => ⟨t__law_rows c E, ?_, R vs H Q E h⟩)
  exact (pss_cons (ps_set (i := 2) nd rfl (by first | exact Or.inl rfl | exact Or.inr rfl) (pe_lst pa_nil))
  (pss_cons (ps_for PassesOwn.never rfl (pi_list (pv 0)) (pg_name (i := 3) nd rfl (by first | exact Or.inl rfl | exact Or.inr rfl)) (pss_one (ps_set (i := 2) nd rfl (by first | exact Or.inl rfl | exact Or.inr rfl) (pe_op oAdd (pv 2) (pe_lc (own := [("_law_at", 4)]) (g := (gName 4)) (tt := tYes) (te := (tBM c.K "str" u_rstrip (tSl (uSl c.K) (tVar 3) (tPart (tVar 4)) (tPart (tOp (uAdd c.K) (tVar 4) (tVar 1)))) (tCons (tC (.str ⟨#[32]⟩)) tNil))) rfl nd (pi_range3 (by rfl) T.b_range (pa_cons pe_int (pa_cons (pe_callB (cMax rfl) (by rfl) T.b_max (by decide +kernel) (pa_cons pe_int (pa_cons (pe_callB cLen (by rfl) T.b_len (by decide +kernel) (pa_cons (pv 3) pa_nil)) pa_nil))) (pa_cons (pv 1) pa_nil)))) (blkOk_by (own := [("_law_at", 4)]) (N := M__law_rows) (sc := (defScope st__law_rows)) (by decide +kernel)) (fun _ _ _ _ _ => (pg_name (i := 4) nd rfl (by first | exact Or.inl rfl | exact Or.inr rfl))) (fun _ _ _ _ _ => pts_nil) (fun _ _ _ _ _ => (pe_bm PySem.F.plainAttrs_str PySem.F.slot_str_rstrip PySem.F.type_str_rstrip mt_rstripChars (pe_slice sSl (pv 3) (po_some (pv 4)) (po_some (pe_op oAdd (pv 4) (pv 1)))) (pa_cons (pe_sc (by decide +kernel)) pa_nil))))))))
  (pss_one (ps_ret (pv 2)))))

abbrev M__law_right : List Str := ["_law_screen", "_law_lines", "_law_wide", "_law_high", "_law_due", "_law_text", "_law_last", "_law_is_full", "_law_column"]
theorem sc__law_right : FnScope M__law_right ["_law_screen", "_law_lines", "_law_wide", "_law_high"] (defScope st__law_right) := ⟨rfl, rfl, rfl, by decide +kernel, rfl, by decide +kernel, by decide +kernel⟩
theorem ok__law_right {f : Addr} {fd : FuncData} (F : Fun c.K "_law_right" "_law_right" st__law_right f fd) (T : Txt c mg) (R : RD M__law_right (t__law_right c) (sp__law_right c)) (Rl : ∀ vs H Q E, sp__law_right c vs H Q E → vs.length = 4) (D__law_rows : DefX P w c.K mg base CX0 "_law_rows" 1 ["_law_lines", "_law_wide"] (sp__law_rows c)) (D_Screen_kept : MethX P w c.K mg base CX0 c.cScreen "kept" 1 ["self"] (sp_Screen_kept c)) (D_Screen_texts : MethX P w c.K mg base CX0 c.cScreen "texts" 1 ["self"] (sp_Screen_texts c)) (D_Screen_cursor : MethX P w c.K mg base CX0 c.cScreen "cursor" 1 ["self"] (sp_Screen_cursor c)) : FnOk P w c.K mg base CX0 2 f fd ["_law_screen", "_law_lines", "_law_wide", "_law_high"] (sp__law_right c) := by
  have nd := sc__law_right.nd
  refine F.ok sc__law_right Rl (fun cdv A outer s H vs Q E hr h => ⟨t__law_right c E, ?_, R vs H Q E h⟩)
  exact (pss_cons (ps_set (i := 4) nd rfl (by first | exact Or.inl rfl | exact Or.inr rfl) (pe_f D__law_rows hr (by decide) pass0 (pa_cons (pv 1) (pa_cons (pv 2) pa_nil))))
  (pss_cons (ps_if (pt_cmpR (oNe hr.units) (pe_op oAdd (pe_o0 D_Screen_kept hr (by decide) pass0 (pv 0)) (pe_slice sSl (pe_o0 D_Screen_texts hr (by decide) pass0 (pv 0)) po_none (po_some (pe_op oSub (pe_callB cLen (by rfl) T.b_len (by decide +kernel) (pa_cons (pv 4) pa_nil)) (pe_callB cLen (by rfl) T.b_len (by decide +kernel) (pa_cons (pe_o0 D_Screen_kept hr (by decide) pass0 (pv 0)) pa_nil)))))) (pv 4) (by first | rfl | exact nomark _)) (pss_one (ps_ret pe_bl)) pss_nil)
  (pss_cons (ps_if (pt_cmpR (oNe hr.units) (pe_lc (own := [("_law_text", 5)]) (g := (gName 5)) (tt := (tTest (tOp (uNe c.K) (tVar 5) (tC (.str ⟨#[]⟩))))) (te := (tVar 5)) rfl nd (pi_list (pe_slice sSl (pe_o0 D_Screen_texts hr (by decide) pass0 (pv 0)) (po_some (pe_op oSub (pe_callB cLen (by rfl) T.b_len (by decide +kernel) (pa_cons (pv 4) pa_nil)) (pe_callB cLen (by rfl) T.b_len (by decide +kernel) (pa_cons (pe_o0 D_Screen_kept hr (by decide) pass0 (pv 0)) pa_nil)))) po_none)) (blkOk_by (own := [("_law_text", 5)]) (N := M__law_right) (sc := (defScope st__law_right)) (by decide +kernel)) (fun _ _ _ _ _ => (pg_name (i := 5) nd rfl (by first | exact Or.inl rfl | exact Or.inr rfl))) (fun _ _ _ _ _ => (pts_one (pt_cmpR (oNe hr.units) (pv 5) (pe_sc (by decide +kernel)) (by first | rfl | exact nomark _)))) (fun _ _ _ _ _ => (pv 5))) (pe_lst pa_nil) (by first | rfl | exact nomark _)) (pss_one (ps_ret pe_bl)) pss_nil)
  (pss_cons (ps_set (i := 6) nd rfl (by first | exact Or.inl rfl | exact Or.inr rfl) (pe_ix iIx (pv 1) (pe_un un_neg pe_int) (fun _ _ => rfl)))
  (pss_cons (ps_set (i := 7) nd rfl (by first | exact Or.inl rfl | exact Or.inr rfl) (pe_and (pe_cmpR oGt (pe_callB cLen (by rfl) T.b_len (by decide +kernel) (pa_cons (pv 6) pa_nil)) pe_int (by first | rfl | exact nomark _)) (pe_one (pe_cmpR (oEq hr.units) (pe_op oMod (pe_callB cLen (by rfl) T.b_len (by decide +kernel) (pa_cons (pv 6) pa_nil)) (pv 2)) pe_int (by first | rfl | exact nomark _)))))
  (pss_cons (ps_set (i := 8) nd rfl (by first | exact Or.inl rfl | exact Or.inr rfl) (pe_ifExp (pt_val (pv 7)) (pe_op oSub (pv 2) pe_int) (pe_op oMod (pe_callB cLen (by rfl) T.b_len (by decide +kernel) (pa_cons (pv 6) pa_nil)) (pv 2))))
  (pss_one (ps_ret (pe_cmpR (oEq hr.units) (pe_o0 D_Screen_cursor hr (by decide) pass0 (pv 0)) (pe_tup (pa_cons (pe_op oSub (pe_op oSub (pe_callB cLen (by rfl) T.b_len (by decide +kernel) (pa_cons (pv 4) pa_nil)) (pe_callB cLen (by rfl) T.b_len (by decide +kernel) (pa_cons (pe_o0 D_Screen_kept hr (by decide) pass0 (pv 0)) pa_nil))) pe_int) (pa_cons (pv 8) (pa_cons (pv 7) pa_nil)))) (by first | rfl | exact nomark _))))))))))

abbrev M_law : List Str := ["_law_script", "_law_k", "_law_more", "_law_first", "_law_lines", "_law_j", "_law_here", "_law_n", "_law_screen", "_law_sizes", "_law_size"]
theorem sc_law : FnScope M_law ["_law_script"] (defScope st_law) := ⟨rfl, rfl, rfl, by decide +kernel, rfl, by decide +kernel, by decide +kernel⟩
theorem ok_law {f : Addr} {fd : FuncData} (F : Fun c.K "law" "law" st_law f fd) (T : Txt c mg) (R : RD M_law (t_law c) (sp_law c)) (Rl : ∀ vs H Q E, sp_law c vs H Q E → vs.length = 1) (D__law_drawn : DefX P w c.K mg base CX0 "_law_drawn" 1 ["_law_cell_here", "_law_k"] (sp__law_drawn c)) (D__law_cell : DefX P w c.K mg base CX0 "_law_cell" 1 ["_law_script", "_law_k"] (sp__law_cell c)) (D_Screen_init : InitX P w c.K mg base (L2.CX P w) "Screen" c.cScreen 5 ["self", "wide", "high", "most"] (sp_Screen_init c)) (D_Screen_feed : MethX P w c.K mg base (L2.CX P w) c.cScreen "feed" 10 ["self", "text"] (sp_Screen_feed c)) (D__law_right : DefX P w c.K mg base CX0 "_law_right" 2 ["_law_screen", "_law_lines", "_law_wide", "_law_high"] (sp__law_right c)) (D_resize : DefX P w c.K mg base (L2.CX P w) "resize" 5 ["screen", "wide", "high"] (sp_resize c)) : FnOk P w c.K mg base CX0 11 f fd ["_law_script"] (sp_law c) := by
  have nd := sc_law.nd
  refine F.ok sc_law Rl (fun cdv A outer s H vs Q E hr h => ⟨t_law c E, ?_, R vs H Q E h⟩)
  exact (pss_cons (ps_for PassesOwn.never rfl (pi_range1 (by rfl) T.b_range (pa_cons (pe_callB (cMax rfl) (by rfl) T.b_max (by decide +kernel) (pa_cons pe_int (pa_cons (pe_callB (cMin rfl) (by rfl) T.b_min (by decide +kernel) (pa_cons pe_int (pa_cons (pe_callB cLen (by rfl) T.b_len (by decide +kernel) (pa_cons (pv 0) pa_nil)) pa_nil))) pa_nil))) pa_nil)) (pg_name (i := 1) nd rfl (by first | exact Or.inl rfl | exact Or.inr rfl)) (pss_cons (ps_set (i := 2) nd rfl (by first | exact Or.inl rfl | exact Or.inr rfl) (pe_f D__law_drawn hr (by decide) pass0 (pa_cons (pe_f D__law_cell hr (by decide) pass0 (pa_cons (pv 0) (pa_cons (pv 1) pa_nil))) (pa_cons (pv 1) pa_nil))))
  (pss_cons (ps_set (i := 3) nd rfl (by first | exact Or.inl rfl | exact Or.inr rfl) (pe_tup (pa_cons (pe_op oAdd pe_int (pe_op oMod (pv 2) pe_int)) (pa_cons (pe_op oAdd pe_int (pe_op oMod (pe_op oDiv (pv 2) pe_int) pe_int)) pa_nil))))
  (pss_cons (ps_set (i := 4) nd rfl (by first | exact Or.inl rfl | exact Or.inr rfl) (pe_lst pa_nil))
  (pss_cons (ps_for PassesOwn.never rfl (pi_range1 (by rfl) T.b_range (pa_cons (pe_op oAdd pe_int (pe_op oMod (pe_op oDiv (pv 2) pe_int) pe_int)) pa_nil)) (pg_name (i := 5) nd rfl (by first | exact Or.inl rfl | exact Or.inr rfl)) (pss_cons (ps_set (i := 6) nd rfl (by first | exact Or.inl rfl | exact Or.inr rfl) (pe_f D__law_drawn hr (by decide) pass0 (pa_cons (pv 2) (pa_cons (pv 5) pa_nil))))
  (pss_one (ps_expr (pe_bm PySem.F.plainAttrs_list PySem.F.slot_list_append PySem.F.type_list_append mt_append (pv 4) (pa_cons (pe_ujoin (pe_sc (by decide +kernel)) (pe_lc (own := [("_law_n", 7)]) (g := (gName 7)) (tt := tYes) (te := (tOp (uIx c.K) (tC (.str ⟨#[97, 98, 99, 100, 101, 102]⟩)) (tOp uMod (tOp (uAdd c.K) (tVar 6) (tVar 7)) (tC (.int 6))))) rfl nd (pi_range1 (by rfl) T.b_range (pa_cons (pe_op oMod (pe_op oDiv (pv 6) pe_int) pe_int) pa_nil)) (blkOk_by (own := [("_law_n", 7)]) (N := M_law) (sc := (defScope st_law)) (by decide +kernel)) (fun _ _ _ _ _ => (pg_name (i := 7) nd rfl (by first | exact Or.inl rfl | exact Or.inr rfl))) (fun _ _ _ _ _ => pts_nil) (fun _ _ _ _ _ => (pe_ix iIx (pe_sc (by decide +kernel)) (pe_op oMod (pe_op oAdd (pv 6) (pv 7)) pe_int) (fun _ _ => rfl))))) pa_nil))))))
  (pss_cons (ps_set (i := 8) nd rfl (by first | exact Or.inl rfl | exact Or.inr rfl) (pe_n D_Screen_init hr (by decide) passL (pa_cons (pe_ix iIx (pv 3) pe_int (fun _ _ => rfl)) (pa_cons (pe_ix iIx (pv 3) pe_int (fun _ _ => rfl)) (pa_cons pe_int pa_nil)))))
  (pss_cons (ps_expr (pe_o D_Screen_feed hr (by decide) passL (pv 8) (pa_cons (pe_ujoin (pe_sc (by decide +kernel)) (pv 4)) pa_nil)))
  (pss_cons (ps_if (pt_not (pt_val (pe_f D__law_right hr (by decide) pass0 (pa_cons (pv 8) (pa_cons (pv 4) (pa_cons (pe_ix iIx (pv 3) pe_int (fun _ _ => rfl)) (pa_cons (pe_ix iIx (pv 3) pe_int (fun _ _ => rfl)) pa_nil))))))) (pss_one (ps_ret pe_bl)) pss_nil)
  (pss_cons (by first | exact (ps_setLc (i := 9) (own := [("_law_j", 5)]) (g := (gName 5)) (tt := tYes) (te := (tTup (tCons (tOp (uAdd c.K) (tC (.int 2)) (tOp uMod (tF (sp__law_drawn c) E0 (tCons (tVar 2) (tCons (tOp (uAdd c.K) (tC (.int 30)) (tVar 5)) tNil))) (tC (.int 20)))) (tCons (tOp (uAdd c.K) (tC (.int 2)) (tOp uMod (tF (sp__law_drawn c) E0 (tCons (tVar 2) (tCons (tOp (uAdd c.K) (tC (.int 40)) (tVar 5)) tNil))) (tC (.int 8)))) tNil)))) rfl nd rfl rfl (sw_true rfl rfl rfl (by decide +kernel)) (pi_range1 (by rfl) T.b_range (pa_cons pe_int pa_nil)) (blkOk_by (own := [("_law_j", 5)]) (N := M_law) (sc := (defScope st_law)) (by decide +kernel)) (fun _ _ _ _ _ => (pg_name (i := 5) nd rfl (by first | exact Or.inl rfl | exact Or.inr rfl))) (fun _ _ _ _ _ => pts_nil) (fun _ _ _ _ _ => (pe_tup (pa_cons (pe_op oAdd pe_int (pe_op oMod (pe_f D__law_drawn hr (by decide) pass0 (pa_cons (pv 2) (pa_cons (pe_op oAdd pe_int (pv 5)) pa_nil))) pe_int)) (pa_cons (pe_op oAdd pe_int (pe_op oMod (pe_f D__law_drawn hr (by decide) pass0 (pa_cons (pv 2) (pa_cons (pe_op oAdd pe_int (pv 5)) pa_nil))) pe_int)) pa_nil))))) | exact (ps_set (i := 9) nd rfl (by first | exact Or.inl rfl | exact Or.inr rfl) (pe_lc (own := [("_law_j", 5)]) (g := (gName 5)) (tt := tYes) (te := (tTup (tCons (tOp (uAdd c.K) (tC (.int 2)) (tOp uMod (tF (sp__law_drawn c) E0 (tCons (tVar 2) (tCons (tOp (uAdd c.K) (tC (.int 30)) (tVar 5)) tNil))) (tC (.int 20)))) (tCons (tOp (uAdd c.K) (tC (.int 2)) (tOp uMod (tF (sp__law_drawn c) E0 (tCons (tVar 2) (tCons (tOp (uAdd c.K) (tC (.int 40)) (tVar 5)) tNil))) (tC (.int 8)))) tNil)))) rfl nd (pi_range1 (by rfl) T.b_range (pa_cons pe_int pa_nil)) (blkOk_by (own := [("_law_j", 5)]) (N := M_law) (sc := (defScope st_law)) (by decide +kernel)) (fun _ _ _ _ _ => (pg_name (i := 5) nd rfl (by first | exact Or.inl rfl | exact Or.inr rfl))) (fun _ _ _ _ _ => pts_nil) (fun _ _ _ _ _ => (pe_tup (pa_cons (pe_op oAdd pe_int (pe_op oMod (pe_f D__law_drawn hr (by decide) pass0 (pa_cons (pv 2) (pa_cons (pe_op oAdd pe_int (pv 5)) pa_nil))) pe_int)) (pa_cons (pe_op oAdd pe_int (pe_op oMod (pe_f D__law_drawn hr (by decide) pass0 (pa_cons (pv 2) (pa_cons (pe_op oAdd pe_int (pv 5)) pa_nil))) pe_int)) pa_nil)))))))
  (pss_one (ps_for PassesOwn.never rfl (pi_enum (by rfl) T.b_enumerate (pa_cons (pe_op oAdd (pv 9) (pe_lst (pa_cons (pv 3) pa_nil))) pa_nil)) (pg_tup (by rfl) (pgs_cons (pg_name (i := 5) nd rfl (by first | exact Or.inl rfl | exact Or.inr rfl)) (pgs_cons (pg_name (i := 10) nd rfl (by first | exact Or.inl rfl | exact Or.inr rfl)) pgs_nil))) (pss_cons (ps_expr (pe_f D_resize hr (by decide) passL (pa_cons (pv 8) (pa_cons (pe_ix iIx (pv 10) pe_int (fun _ _ => rfl)) (pa_cons (pe_ix iIx (pv 10) pe_int (fun _ _ => rfl)) pa_nil)))))
  (pss_cons (ps_if (pt_not (pt_val (pe_f D__law_right hr (by decide) pass0 (pa_cons (pv 8) (pa_cons (pv 4) (pa_cons (pe_ix iIx (pv 10) pe_int (fun _ _ => rfl)) (pa_cons (pe_ix iIx (pv 10) pe_int (fun _ _ => rfl)) pa_nil))))))) (pss_one (ps_ret pe_bl)) pss_nil)
  (pss_one (ps_if (pt_cmpR (oEq hr.units) (pv 5) pe_int (by first | rfl | exact nomark _)) (pss_cons (ps_expr (pe_o D_Screen_feed hr (by decide) passL (pv 8) (pa_cons (pe_sc (by decide +kernel)) pa_nil)))
  (pss_cons (ps_set (i := 4) nd rfl (by first | exact Or.inl rfl | exact Or.inr rfl) (pe_op oAdd (pe_slice sSl (pv 4) po_none (po_some (pe_un un_neg pe_int))) (pe_lst (pa_cons (pe_op oAdd (pe_ix iIx (pv 4) (pe_un un_neg pe_int) (fun _ _ => rfl)) (pe_sc (by decide +kernel))) pa_nil))))
  (pss_one (ps_if (pt_not (pt_val (pe_f D__law_right hr (by decide) pass0 (pa_cons (pv 8) (pa_cons (pv 4) (pa_cons (pe_ix iIx (pv 10) pe_int (fun _ _ => rfl)) (pa_cons (pe_ix iIx (pv 10) pe_int (fun _ _ => rfl)) pa_nil))))))) (pss_one (ps_ret pe_bl)) pss_nil)))) pss_nil)))))))))))))))
  (pss_one (ps_ret pe_bl)))

end
theorem funD_fun {K : PySem.W.Frag} {x q : Str} {st : Stmt} {f : Addr} {fd : FuncData} (F : FunD K x q (defArgs st) (defBody st) (defScope st) [] [] f fd) : Fun K x q st f fd := by
  obtain ⟨oc, od, dV, kV, doc, pm, an, cdv, ct, osl, rfl, lk, hcd, hD, _⟩ := F.ex
  rcases hD with ⟨_, rfl⟩ | ⟨e, _⟩
  · exact ⟨⟨oc, od, kV, doc, pm, an, cdv, ct, osl, rfl, lk, hcd⟩, F.kp⟩
  · exact absurd rfl e
def ctx (K : PySem.W.Frag) : Ctx := { K := K, cScreenError := He.ga K "ScreenError", cBadText := He.ga K "BadText", cBadSize := He.ga K "BadSize", cBadPlace := He.ga K "BadPlace", cBadPage := He.ga K "BadPage", cBadPane := He.ga K "BadPane", cBadTick := He.ga K "BadTick", cNothing := He.ga K "Nothing", cReader := He.ga K "Reader", cRow := He.ga K "Row", cScreen := He.ga K "Screen", cLine := He.ga K "Line", cPanes := He.ga K "Panes", cTape := He.ga K "Tape", aPLAIN := He.ga K "PLAIN", aBLANK := He.ga K "BLANK", aUPRIGHT := He.ga K "UPRIGHT", aLEVEL := He.ga K "LEVEL", tabs := [((He.cT K ("law", none)).2, (("law" : Str) ++ ".<locals>.") ++ "<lambda>")] }
theorem says_txt {K : PySem.W.Frag} {h : Heap} {mg : Str → Option Value} (X : K.In h) (G : h.Ns mainGlobals mg) (c : He.SaysD fa fn K) : Txt (ctx K) mg where
  b_ord := He.free_ok X G (c.fact 0 (f := .free "ord") rfl)
  b_isinstance := He.free_ok X G (c.fact 1 (f := .free "isinstance") rfl)
  b_str := He.free_ok X G (c.fact 2 (f := .free "str") rfl)
  b_len := He.free_ok X G (c.fact 3 (f := .free "len") rfl)
  b_all := He.free_ok X G (c.fact 4 (f := .free "all") rfl)
  b_tuple := He.free_ok X G (c.fact 5 (f := .free "tuple") rfl)
  b_int := He.free_ok X G (c.fact 6 (f := .free "int") rfl)
  b_bool := He.free_ok X G (c.fact 7 (f := .free "bool") rfl)
  b_range := He.free_ok X G (c.fact 8 (f := .free "range") rfl)
  b_max := He.free_ok X G (c.fact 9 (f := .free "max") rfl)
  b_min := He.free_ok X G (c.fact 10 (f := .free "min") rfl)
  b_enumerate := He.free_ok X G (c.fact 11 (f := .free "enumerate") rfl)
  g_BARRED := let ⟨t, e⟩ := He.int_ok X G (c.fact 12 (f := .int "BARRED" 37) rfl); ⟨_, e, ⟨t, rfl⟩⟩
  g_GAP := let ⟨t, e⟩ := He.str_ok X G (c.fact 13 (f := .str "GAP" ⟨#[10]⟩) rfl); ⟨_, e, ⟨t, rfl⟩⟩
  g_MOST_TEXT := let ⟨t, e⟩ := He.int_ok X G (c.fact 14 (f := .int "MOST_TEXT" 4000) rfl); ⟨_, e, ⟨t, rfl⟩⟩
  g_SMALL := let ⟨t, e⟩ := He.str_ok X G (c.fact 15 (f := .str "SMALL" ⟨#[97, 98, 99, 100, 101, 102, 103, 104, 105, 106, 107, 108, 109, 110, 111, 112, 113, 114, 115, 116, 117, 118, 119, 120, 121, 122]⟩) rfl); ⟨_, e, ⟨t, rfl⟩⟩
  g_GREAT := let ⟨t, e⟩ := He.str_ok X G (c.fact 16 (f := .str "GREAT" ⟨#[65, 66, 67, 68, 69, 70, 71, 72, 73, 74, 75, 76, 77, 78, 79, 80, 81, 82, 83, 84, 85, 86, 87, 88, 89, 90]⟩) rfl); ⟨_, e, ⟨t, rfl⟩⟩
  g_FIGURES := let ⟨t, e⟩ := He.str_ok X G (c.fact 17 (f := .str "FIGURES" ⟨#[48, 49, 50, 51, 52, 53, 54, 55, 56, 57]⟩) rfl); ⟨_, e, ⟨t, rfl⟩⟩
  g_MOST_FIGURES := let ⟨t, e⟩ := He.int_ok X G (c.fact 18 (f := .int "MOST_FIGURES" 4) rfl); ⟨_, e, ⟨t, rfl⟩⟩
  g_MOST_ARGUMENTS := let ⟨t, e⟩ := He.int_ok X G (c.fact 19 (f := .int "MOST_ARGUMENTS" 4) rfl); ⟨_, e, ⟨t, rfl⟩⟩
  g_BLANK := ⟨_, He.glo_ok X G (c.fact 20 (f := .glo "BLANK") rfl), rfl⟩
  g_LEAST_HIGH := let ⟨t, e⟩ := He.int_ok X G (c.fact 21 (f := .int "LEAST_HIGH" 2) rfl); ⟨_, e, ⟨t, rfl⟩⟩
  g_MOST_HIGH := let ⟨t, e⟩ := He.int_ok X G (c.fact 22 (f := .int "MOST_HIGH" 40) rfl); ⟨_, e, ⟨t, rfl⟩⟩
  g_LEAST_WIDE := let ⟨t, e⟩ := He.int_ok X G (c.fact 23 (f := .int "LEAST_WIDE" 2) rfl); ⟨_, e, ⟨t, rfl⟩⟩
  g_MOST_WIDE := let ⟨t, e⟩ := He.int_ok X G (c.fact 24 (f := .int "MOST_WIDE" 60) rfl); ⟨_, e, ⟨t, rfl⟩⟩
  g_MOST_KEPT := let ⟨t, e⟩ := He.int_ok X G (c.fact 25 (f := .int "MOST_KEPT" 200) rfl); ⟨_, e, ⟨t, rfl⟩⟩
  g_PLAIN := ⟨_, He.glo_ok X G (c.fact 26 (f := .glo "PLAIN") rfl), rfl⟩
  x_BadText := let e := He.exc_ok (c.fact 28 (f := .exc "BadText") rfl); ⟨e.1, He.glo_ok X G (c.fact 27 (f := .glo "BadText") rfl), e.2.1, e.2.2.1, e.2.2.2⟩
  x_BadSize := let e := He.exc_ok (c.fact 30 (f := .exc "BadSize") rfl); ⟨e.1, He.glo_ok X G (c.fact 29 (f := .glo "BadSize") rfl), e.2.1, e.2.2.1, e.2.2.2⟩
theorem says_Tups {K : PySem.W.Frag} (h : exK K = true) : Tups (ctx K) := by
  have h' : (He.tupB K "PLAIN" [.int 0, .int 0, .int 0] && He.tupB K "BLANK" [.str ⟨#[32]⟩, .glo "PLAIN"]) = true := h
  simp only [Bool.and_eq_true] at h'
  have pl : ∀ F, Dp K F (.ref (He.ga K "PLAIN")) (penData plainPen) := fun F => .tup (He.tupB_ok h'.1 F) (.cons (.int _) (.cons (.int _) (.cons (.int _) .nil)))
  exact ⟨fun F => .tup (He.tupB_ok h'.2 F) (.cons (.str _) (.cons (pl F) .nil)), pl⟩
theorem says_Reader {K : PySem.W.Frag} (c : He.SaysD fa fn K) : FReader (ctx K) where
  cl := He.cls_ok (c.fact 33 (f := .cls "Reader") rfl)
  n_begun := He.noat_ok (c.fact 35 (f := .noat "Reader" "begun") rfl)
  n_lost := He.noat_ok (c.fact 36 (f := .noat "Reader" "lost") rfl)
theorem says_Row {K : PySem.W.Frag} (c : He.SaysD fa fn K) : FRow (ctx K) where
  cl := He.cls_ok (c.fact 43 (f := .cls "Row") rfl)
  n_cells := He.noat_ok (c.fact 45 (f := .noat "Row" "cells") rfl)
  n_goes_on := He.noat_ok (c.fact 46 (f := .noat "Row" "goes_on") rfl)
theorem says_Screen {K : PySem.W.Frag} (c : He.SaysD fa fn K) : FScreen (ctx K) where
  cl := He.cls_ok (c.fact 48 (f := .cls "Screen") rfl)
  n_reader := He.noat_ok (c.fact 50 (f := .noat "Screen" "reader") rfl)
  n_wide := He.noat_ok (c.fact 51 (f := .noat "Screen" "wide") rfl)
  n_high := He.noat_ok (c.fact 52 (f := .noat "Screen" "high") rfl)
  n_most := He.noat_ok (c.fact 53 (f := .noat "Screen" "most") rfl)
  n_past := He.noat_ok (c.fact 54 (f := .noat "Screen" "past") rfl)
  n_rows := He.noat_ok (c.fact 55 (f := .noat "Screen" "rows") rfl)
  n_row := He.noat_ok (c.fact 56 (f := .noat "Screen" "row") rfl)
  n_column := He.noat_ok (c.fact 57 (f := .noat "Screen" "column") rfl)
  n_is_full := He.noat_ok (c.fact 58 (f := .noat "Screen" "is_full") rfl)
  n_pen := He.noat_ok (c.fact 59 (f := .noat "Screen" "pen") rfl)
  n_top := He.noat_ok (c.fact 60 (f := .noat "Screen" "top") rfl)
  n_bottom := He.noat_ok (c.fact 61 (f := .noat "Screen" "bottom") rfl)
  n_put_by := He.noat_ok (c.fact 62 (f := .noat "Screen" "put_by") rfl)
  n_last := He.noat_ok (c.fact 63 (f := .noat "Screen" "last") rfl)
theorem says_Line {K : PySem.W.Frag} (c : He.SaysD fa fn K) : FLine (ctx K) where
  cl := He.cls_ok (c.fact 84 (f := .cls "Line") rfl)
  n_cells := He.noat_ok (c.fact 86 (f := .noat "Line" "cells") rfl)
  n_place := He.noat_ok (c.fact 87 (f := .noat "Line" "place") rfl)
theorem law_at {w : World} {mg : Str → Option Value} {fa' : Addr} {h : Heap} (G : h.Ns mainGlobals mg) (hmg : mg ("law" : Str) = some (.ref fa')) (Y : hkk.says w h) : ∃ K : PySem.W.Frag, K.In h ∧ LamX.LawAtS PySem.Challenge.rw_steerscreen_k41_whole_text_laid_anew w K CX0 11 63 "_law_script" mg fa' h := by
  obtain ⟨K, X, Y⟩ := Y
  have c := Y.t.d
  refine ⟨K, X, ?_⟩
  have T := says_txt X G c
  have FFTups := says_Tups Y.more
  have FFReader := says_Reader c
  have FFRow := says_Row c
  have FFScreen := says_Screen c
  have FFLine := says_Line c
  obtain ⟨fd_is_sign, FD_is_sign⟩ := c.def_ 0 (d := dd_is_sign) rfl
  obtain ⟨fd_need_text, FD_need_text⟩ := c.def_ 1 (d := dd_need_text) rfl
  obtain ⟨fd_Reader_init, FD_Reader_init⟩ := c.def_ 2 (d := dd_Reader_init) rfl
  obtain ⟨fd_Reader_feed, FD_Reader_feed⟩ := c.def_ 3 (d := dd_Reader_feed) rfl
  obtain ⟨fd_Reader_plain, FD_Reader_plain⟩ := c.def_ 4 (d := dd_Reader_plain) rfl
  obtain ⟨fd_Reader_read, FD_Reader_read⟩ := c.def_ 5 (d := dd_Reader_read) rfl
  obtain ⟨fd_Reader_can_go_on, FD_Reader_can_go_on⟩ := c.def_ 6 (d := dd_Reader_can_go_on) rfl
  obtain ⟨fd_Reader_whole, FD_Reader_whole⟩ := c.def_ 7 (d := dd_Reader_whole) rfl
  obtain ⟨fd_is_count, FD_is_count⟩ := c.def_ 8 (d := dd_is_count) rfl
  obtain ⟨fd_need_size, FD_need_size⟩ := c.def_ 9 (d := dd_need_size) rfl
  obtain ⟨fd_Row_init, FD_Row_init⟩ := c.def_ 10 (d := dd_Row_init) rfl
  obtain ⟨fd_blank_row, FD_blank_row⟩ := c.def_ 11 (d := dd_blank_row) rfl
  obtain ⟨fd_Screen_init, FD_Screen_init⟩ := c.def_ 12 (d := dd_Screen_init) rfl
  obtain ⟨fd_Screen_begin, FD_Screen_begin⟩ := c.def_ 13 (d := dd_Screen_begin) rfl
  obtain ⟨fd_Screen_texts, FD_Screen_texts⟩ := c.def_ 14 (d := dd_Screen_texts) rfl
  obtain ⟨fd_Screen_kept, FD_Screen_kept⟩ := c.def_ 15 (d := dd_Screen_kept) rfl
  obtain ⟨fd_Screen_cursor, FD_Screen_cursor⟩ := c.def_ 16 (d := dd_Screen_cursor) rfl
  obtain ⟨fd_Screen_feed, FD_Screen_feed⟩ := c.def_ 17 (d := dd_Screen_feed) rfl
  obtain ⟨fd_Screen_do, FD_Screen_do⟩ := c.def_ 18 (d := dd_Screen_do) rfl
  obtain ⟨fd_Screen_stand, FD_Screen_stand⟩ := c.def_ 19 (d := dd_Screen_stand) rfl
  obtain ⟨fd_Screen_put, FD_Screen_put⟩ := c.def_ 20 (d := dd_Screen_put) rfl
  obtain ⟨fd_Screen_roll, FD_Screen_roll⟩ := c.def_ 21 (d := dd_Screen_roll) rfl
  obtain ⟨fd_Screen_roll_down, FD_Screen_roll_down⟩ := c.def_ 22 (d := dd_Screen_roll_down) rfl
  obtain ⟨fd_Screen_cut_off, FD_Screen_cut_off⟩ := c.def_ 23 (d := dd_Screen_cut_off) rfl
  obtain ⟨fd_Screen_down, FD_Screen_down⟩ := c.def_ 24 (d := dd_Screen_down) rfl
  obtain ⟨fd_Screen_up, FD_Screen_up⟩ := c.def_ 25 (d := dd_Screen_up) rfl
  obtain ⟨fd_Screen_small, FD_Screen_small⟩ := c.def_ 26 (d := dd_Screen_small) rfl
  obtain ⟨fd_Screen_erase, FD_Screen_erase⟩ := c.def_ 27 (d := dd_Screen_erase) rfl
  obtain ⟨fd_Screen_great, FD_Screen_great⟩ := c.def_ 28 (d := dd_Screen_great) rfl
  obtain ⟨fd_Screen_one, FD_Screen_one⟩ := c.def_ 29 (d := dd_Screen_one) rfl
  obtain ⟨fd_Screen_take_rows, FD_Screen_take_rows⟩ := c.def_ 30 (d := dd_Screen_take_rows) rfl
  obtain ⟨fd_Screen_shift, FD_Screen_shift⟩ := c.def_ 31 (d := dd_Screen_shift) rfl
  obtain ⟨fd_Line_init, FD_Line_init⟩ := c.def_ 32 (d := dd_Line_init) rfl
  obtain ⟨fd_is_blank, FD_is_blank⟩ := c.def_ 33 (d := dd_is_blank) rfl
  obtain ⟨fd_trimmed, FD_trimmed⟩ := c.def_ 34 (d := dd_trimmed) rfl
  obtain ⟨fd_lines_of, FD_lines_of⟩ := c.def_ 35 (d := dd_lines_of) rfl
  obtain ⟨fd_laid, FD_laid⟩ := c.def_ 36 (d := dd_laid) rfl
  obtain ⟨fd_all_laid, FD_all_laid⟩ := c.def_ 37 (d := dd_all_laid) rfl
  obtain ⟨fd_resize, FD_resize⟩ := c.def_ 38 (d := dd_resize) rfl
  obtain ⟨fd__law_cell, FD__law_cell⟩ := c.def_ 39 (d := dd__law_cell) rfl
  obtain ⟨fd__law_drawn, FD__law_drawn⟩ := c.def_ 40 (d := dd__law_drawn) rfl
  obtain ⟨fd__law_rows, FD__law_rows⟩ := c.def_ 41 (d := dd__law_rows) rfl
  obtain ⟨fd__law_right, FD__law_right⟩ := c.def_ 42 (d := dd__law_right) rfl
  obtain ⟨fd_law, FD_law⟩ := c.def_ 43 (d := dd_law) rfl
  obtain ⟨cdl, hcl⟩ : ∃ cdl, fd_law.code = .ref cdl := by
    obtain ⟨oc, od, dV, kV, doc, pm, an, cdv, ct, osl, rfl, lk, hcd, _, _⟩ := FD_law.ex
    exact He.codeIn_ref hcd
  have eC : He.codeOf K ("law", none) = cdl := by
    obtain ⟨oc, od, dV, kV, doc, pm, an, cdv, ct, osl, rfl, lk, hcd, _, _⟩ := FD_law.ex
    exact He.codeOf_eq (p := ("law", none)) lk hcl
  have e := hmg.symm.trans (He.glo_ok X G (c.fact 103 (f := .glo "law") rfl))
  cases e
  refine ⟨fd_law, [He.cT K ("law", none)], sp_law (ctx K), fun p hp => ?_, fun p hp => ?_, fun p hp => ?_, fun s u => ?_, ?_, ?_⟩
  · rw [List.mem_singleton.mp hp]; exact Y.empty _ List.mem_cons_self
  · rw [List.mem_singleton.mp hp]; exact Y.out _ List.mem_cons_self
  · rw [List.mem_singleton.mp hp]; exact PySem.W.codeHd_of_K X (Y.hd _ List.mem_cons_self)
  · exact FunD.bindsA (ps := ["_law_script"]) FD_law (fun _ _ _ _ _ _ us hl => match us, hl with | [_], _ => rfl) s [u] rfl
  · intro H a ns hl hb hT hS
    refine ⟨a, ns, H, rfl, hS, hl, fun n hn => cell_bit (hb n hn), fun q hq => ?_, Hold.start H, fun _ => rfl⟩
    rw [List.mem_singleton.mp hq]
    exact ⟨#[], hT _ List.mem_cons_self, trivial, fun pos cv z => by cases z⟩
  · intro base hK hN hTB
    have D__law_drawn : DefX (PySem.Challenge.rw_steerscreen_k41_whole_text_laid_anew).prog w (ctx K).K mg base CX0 "_law_drawn" 1 ["_law_cell_here", "_law_k"] (sp__law_drawn (ctx K)) := ⟨_, fd__law_drawn, (ok__law_drawn (funD_fun FD__law_drawn) T rd__law_drawn (by intro vs H Q E h; repeat (first | (obtain ⟨rfl, _⟩ := h; rfl) | (obtain ⟨_, h⟩ := h))) ), He.glo_ok X G (c.fact 100 (f := .glo "_law_drawn") rfl), FD__law_drawn.kp, FD__law_drawn.bindsN (fun _ _ _ _ _ _ us hl => match us, hl with | [_, _], _ => rfl)⟩
    have D__law_cell : DefX (PySem.Challenge.rw_steerscreen_k41_whole_text_laid_anew).prog w (ctx K).K mg base CX0 "_law_cell" 1 ["_law_script", "_law_k"] (sp__law_cell (ctx K)) := ⟨_, fd__law_cell, (ok__law_cell (funD_fun FD__law_cell) T rd__law_cell (by intro vs H Q E h; repeat (first | (obtain ⟨rfl, _⟩ := h; rfl) | (obtain ⟨_, h⟩ := h))) ), He.glo_ok X G (c.fact 99 (f := .glo "_law_cell") rfl), FD__law_cell.kp, FD__law_cell.bindsN (fun _ _ _ _ _ _ us hl => match us, hl with | [_, _], _ => rfl)⟩
    have D_need_size : DefX (PySem.Challenge.rw_steerscreen_k41_whole_text_laid_anew).prog w (ctx K).K mg base (L2.CX _ w) "need_size" 1 ["good"] (sp_need_size (ctx K)) := ⟨_, fd_need_size, (ok_need_size (funD_fun FD_need_size) T rd_need_size (by intro vs H Q E h; repeat (first | (obtain ⟨rfl, _⟩ := h; rfl) | (obtain ⟨_, h⟩ := h))) ), He.glo_ok X G (c.fact 91 (f := .glo "need_size") rfl), FD_need_size.kp, FD_need_size.bindsN (fun _ _ _ _ _ _ us hl => match us, hl with | [_], _ => rfl)⟩
    have D_is_count : DefX (PySem.Challenge.rw_steerscreen_k41_whole_text_laid_anew).prog w (ctx K).K mg base CX0 "is_count" 1 ["thing", "least", "most"] (sp_is_count (ctx K)) := ⟨_, fd_is_count, (ok_is_count (funD_fun FD_is_count) T rd_is_count (by intro vs H Q E h; repeat (first | (obtain ⟨rfl, _⟩ := h; rfl) | (obtain ⟨_, h⟩ := h))) ), He.glo_ok X G (c.fact 90 (f := .glo "is_count") rfl), FD_is_count.kp, FD_is_count.bindsN (fun _ _ _ _ _ _ us hl => match us, hl with | [_, _, _], _ => rfl)⟩
    have D_Reader_init : InitX (PySem.Challenge.rw_steerscreen_k41_whole_text_laid_anew).prog w (ctx K).K mg base CX0 "Reader" (ctx K).cReader 1 ["self"] (sp_Reader_init (ctx K)) := ⟨_, fd_Reader_init, (ok_Reader_init (funD_fun FD_Reader_init) T (rd_Reader_init FFReader) (by intro vs H Q E h; repeat (first | (obtain ⟨rfl, _⟩ := h; rfl) | (obtain ⟨_, h⟩ := h))) ), He.mkr_ok (c.fact 34 (f := .mkr "Reader") rfl), He.glo_ok X G (c.fact 32 (f := .glo "Reader") rfl), FD_Reader_init.bindsN (fun _ _ _ _ _ _ us hl => match us, hl with | [_], _ => rfl)⟩
    have D_Row_init : InitX (PySem.Challenge.rw_steerscreen_k41_whole_text_laid_anew).prog w (ctx K).K mg base CX0 "Row" (ctx K).cRow 1 ["self", "cells", "goes_on"] (sp_Row_init (ctx K)) := ⟨_, fd_Row_init, (ok_Row_init (funD_fun FD_Row_init) T (rd_Row_init FFRow) (by intro vs H Q E h; repeat (first | (obtain ⟨rfl, _⟩ := h; rfl) | (obtain ⟨_, h⟩ := h))) ), He.mkr_ok (c.fact 44 (f := .mkr "Row") rfl), He.glo_ok X G (c.fact 42 (f := .glo "Row") rfl), FD_Row_init.bindsN (fun _ _ _ _ _ _ us hl => match us, hl with | [_, _, _], _ => rfl)⟩
    have D_blank_row : DefX (PySem.Challenge.rw_steerscreen_k41_whole_text_laid_anew).prog w (ctx K).K mg base CX0 "blank_row" 3 ["wide"] (sp_blank_row (ctx K)) := ⟨_, fd_blank_row, (ok_blank_row (funD_fun FD_blank_row) T (rd_blank_row FFTups) (by intro vs H Q E h; repeat (first | (obtain ⟨rfl, _⟩ := h; rfl) | (obtain ⟨_, h⟩ := h))) D_Row_init), He.glo_ok X G (c.fact 92 (f := .glo "blank_row") rfl), FD_blank_row.kp, FD_blank_row.bindsN (fun _ _ _ _ _ _ us hl => match us, hl with | [_], _ => rfl)⟩
    have D_Screen_begin : MethX (PySem.Challenge.rw_steerscreen_k41_whole_text_laid_anew).prog w (ctx K).K mg base CX0 (ctx K).cScreen "begin" 4 ["self"] (sp_Screen_begin (ctx K)) := ⟨_, fd_Screen_begin, (ok_Screen_begin (funD_fun FD_Screen_begin) T (rd_Screen_begin FFTups FFScreen) (by intro vs H Q E h; repeat (first | (obtain ⟨rfl, _⟩ := h; rfl) | (obtain ⟨_, h⟩ := h))) D_blank_row), He.cls_ok (c.fact 48 (f := .cls "Screen") rfl), He.meth_ok (c.fact 64 (f := .meth "Screen" "begin") rfl), FD_Screen_begin.bindsN (fun _ _ _ _ _ _ us hl => match us, hl with | [_], _ => rfl)⟩
    have D_Screen_init : InitX (PySem.Challenge.rw_steerscreen_k41_whole_text_laid_anew).prog w (ctx K).K mg base (L2.CX _ w) "Screen" (ctx K).cScreen 5 ["self", "wide", "high", "most"] (sp_Screen_init (ctx K)) := ⟨_, fd_Screen_init, (ok_Screen_init (funD_fun FD_Screen_init) T (rd_Screen_init FFScreen) (by intro vs H Q E h; repeat (first | (obtain ⟨rfl, _⟩ := h; rfl) | (obtain ⟨_, h⟩ := h))) D_need_size D_is_count D_Reader_init D_Screen_begin), He.mkr_ok (c.fact 49 (f := .mkr "Screen") rfl), He.glo_ok X G (c.fact 47 (f := .glo "Screen") rfl), FD_Screen_init.bindsN (fun _ _ _ _ _ _ us hl => match us, hl with | [_, _, _, _], _ => rfl)⟩
    have D_is_sign : DefX (PySem.Challenge.rw_steerscreen_k41_whole_text_laid_anew).prog w (ctx K).K mg base CX0 "is_sign" 1 ["sign"] (sp_is_sign (ctx K)) := ⟨_, fd_is_sign, (ok_is_sign (funD_fun FD_is_sign) T rd_is_sign (by intro vs H Q E h; repeat (first | (obtain ⟨rfl, _⟩ := h; rfl) | (obtain ⟨_, h⟩ := h))) ), He.glo_ok X G (c.fact 88 (f := .glo "is_sign") rfl), FD_is_sign.kp, FD_is_sign.bindsN (fun _ _ _ _ _ _ us hl => match us, hl with | [_], _ => rfl)⟩
    have D_need_text : DefX (PySem.Challenge.rw_steerscreen_k41_whole_text_laid_anew).prog w (ctx K).K mg base (L2.CX _ w) "need_text" 2 ["text"] (sp_need_text (ctx K)) := ⟨_, fd_need_text, (ok_need_text (funD_fun FD_need_text) T rd_need_text (by intro vs H Q E h; repeat (first | (obtain ⟨rfl, _⟩ := h; rfl) | (obtain ⟨_, h⟩ := h))) D_is_sign), He.glo_ok X G (c.fact 89 (f := .glo "need_text") rfl), FD_need_text.kp, FD_need_text.bindsN (fun _ _ _ _ _ _ us hl => match us, hl with | [_], _ => rfl)⟩
    have D_Reader_plain : MethX (PySem.Challenge.rw_steerscreen_k41_whole_text_laid_anew).prog w (ctx K).K mg base CX0 (ctx K).cReader "plain" 1 ["self", "sign"] (sp_Reader_plain (ctx K)) := ⟨_, fd_Reader_plain, (ok_Reader_plain (funD_fun FD_Reader_plain) T (rd_Reader_plain FFReader) (by intro vs H Q E h; repeat (first | (obtain ⟨rfl, _⟩ := h; rfl) | (obtain ⟨_, h⟩ := h))) ), He.cls_ok (c.fact 33 (f := .cls "Reader") rfl), He.meth_ok (c.fact 38 (f := .meth "Reader" "plain") rfl), FD_Reader_plain.bindsN (fun _ _ _ _ _ _ us hl => match us, hl with | [_, _], _ => rfl)⟩
    have D_Reader_can_go_on : MethX (PySem.Challenge.rw_steerscreen_k41_whole_text_laid_anew).prog w (ctx K).K mg base CX0 (ctx K).cReader "can_go_on" 1 ["self", "sign"] (sp_Reader_can_go_on (ctx K)) := ⟨_, fd_Reader_can_go_on, (ok_Reader_can_go_on (funD_fun FD_Reader_can_go_on) T (rd_Reader_can_go_on FFReader) (by intro vs H Q E h; repeat (first | (obtain ⟨rfl, _⟩ := h; rfl) | (obtain ⟨_, h⟩ := h))) ), He.cls_ok (c.fact 33 (f := .cls "Reader") rfl), He.meth_ok (c.fact 40 (f := .meth "Reader" "can_go_on") rfl), FD_Reader_can_go_on.bindsN (fun _ _ _ _ _ _ us hl => match us, hl with | [_, _], _ => rfl)⟩
    have D_Reader_whole : MethX (PySem.Challenge.rw_steerscreen_k41_whole_text_laid_anew).prog w (ctx K).K mg base CX0 (ctx K).cReader "whole" 1 ["self"] (sp_Reader_whole (ctx K)) := ⟨_, fd_Reader_whole, (ok_Reader_whole (funD_fun FD_Reader_whole) T (rd_Reader_whole FFReader) (by intro vs H Q E h; repeat (first | (obtain ⟨rfl, _⟩ := h; rfl) | (obtain ⟨_, h⟩ := h))) ), He.cls_ok (c.fact 33 (f := .cls "Reader") rfl), He.meth_ok (c.fact 41 (f := .meth "Reader" "whole") rfl), FD_Reader_whole.bindsN (fun _ _ _ _ _ _ us hl => match us, hl with | [_], _ => rfl)⟩
    have D_Reader_read : MethX (PySem.Challenge.rw_steerscreen_k41_whole_text_laid_anew).prog w (ctx K).K mg base CX0 (ctx K).cReader "read" 2 ["self", "sign"] (sp_Reader_read (ctx K)) := ⟨_, fd_Reader_read, (ok_Reader_read (funD_fun FD_Reader_read) T (rd_Reader_read FFReader) (by intro vs H Q E h; repeat (first | (obtain ⟨rfl, _⟩ := h; rfl) | (obtain ⟨_, h⟩ := h))) D_Reader_plain D_Reader_can_go_on D_Reader_whole), He.cls_ok (c.fact 33 (f := .cls "Reader") rfl), He.meth_ok (c.fact 39 (f := .meth "Reader" "read") rfl), FD_Reader_read.bindsN (fun _ _ _ _ _ _ us hl => match us, hl with | [_, _], _ => rfl)⟩
    have D_Reader_feed : MethX (PySem.Challenge.rw_steerscreen_k41_whole_text_laid_anew).prog w (ctx K).K mg base (L2.CX _ w) (ctx K).cReader "feed" 3 ["self", "text"] (sp_Reader_feed (ctx K)) := ⟨_, fd_Reader_feed, (ok_Reader_feed (funD_fun FD_Reader_feed) T (rd_Reader_feed FFReader) (by intro vs H Q E h; repeat (first | (obtain ⟨rfl, _⟩ := h; rfl) | (obtain ⟨_, h⟩ := h))) D_need_text D_Reader_read), He.cls_ok (c.fact 33 (f := .cls "Reader") rfl), He.meth_ok (c.fact 37 (f := .meth "Reader" "feed") rfl), FD_Reader_feed.bindsN (fun _ _ _ _ _ _ us hl => match us, hl with | [_, _], _ => rfl)⟩
    have D_Screen_cut_off : MethX (PySem.Challenge.rw_steerscreen_k41_whole_text_laid_anew).prog w (ctx K).K mg base CX0 (ctx K).cScreen "cut_off" 1 ["self", "top"] (sp_Screen_cut_off (ctx K)) := ⟨_, fd_Screen_cut_off, (ok_Screen_cut_off (funD_fun FD_Screen_cut_off) T (rd_Screen_cut_off FFScreen FFRow) (by intro vs H Q E h; repeat (first | (obtain ⟨rfl, _⟩ := h; rfl) | (obtain ⟨_, h⟩ := h))) ), He.cls_ok (c.fact 48 (f := .cls "Screen") rfl), He.meth_ok (c.fact 74 (f := .meth "Screen" "cut_off") rfl), FD_Screen_cut_off.bindsN (fun _ _ _ _ _ _ us hl => match us, hl with | [_, _], _ => rfl)⟩
    have D_Screen_roll : MethX (PySem.Challenge.rw_steerscreen_k41_whole_text_laid_anew).prog w (ctx K).K mg base CX0 (ctx K).cScreen "roll" 4 ["self", "top", "many"] (sp_Screen_roll (ctx K)) := ⟨_, fd_Screen_roll, (ok_Screen_roll (funD_fun FD_Screen_roll) T (rd_Screen_roll FFScreen) (by intro vs H Q E h; repeat (first | (obtain ⟨rfl, _⟩ := h; rfl) | (obtain ⟨_, h⟩ := h))) D_blank_row D_Screen_cut_off), He.cls_ok (c.fact 48 (f := .cls "Screen") rfl), He.meth_ok (c.fact 72 (f := .meth "Screen" "roll") rfl), FD_Screen_roll.bindsN (fun _ _ _ _ _ _ us hl => match us, hl with | [_, _, _], _ => rfl)⟩
    have D_Screen_down : MethX (PySem.Challenge.rw_steerscreen_k41_whole_text_laid_anew).prog w (ctx K).K mg base CX0 (ctx K).cScreen "down" 5 ["self"] (sp_Screen_down (ctx K)) := ⟨_, fd_Screen_down, (ok_Screen_down (funD_fun FD_Screen_down) T (rd_Screen_down FFScreen) (by intro vs H Q E h; repeat (first | (obtain ⟨rfl, _⟩ := h; rfl) | (obtain ⟨_, h⟩ := h))) D_Screen_roll), He.cls_ok (c.fact 48 (f := .cls "Screen") rfl), He.meth_ok (c.fact 75 (f := .meth "Screen" "down") rfl), FD_Screen_down.bindsN (fun _ _ _ _ _ _ us hl => match us, hl with | [_], _ => rfl)⟩
    have D_Screen_stand : MethX (PySem.Challenge.rw_steerscreen_k41_whole_text_laid_anew).prog w (ctx K).K mg base CX0 (ctx K).cScreen "stand" 1 ["self", "row", "column"] (sp_Screen_stand (ctx K)) := ⟨_, fd_Screen_stand, (ok_Screen_stand (funD_fun FD_Screen_stand) T (rd_Screen_stand FFScreen) (by intro vs H Q E h; repeat (first | (obtain ⟨rfl, _⟩ := h; rfl) | (obtain ⟨_, h⟩ := h))) ), He.cls_ok (c.fact 48 (f := .cls "Screen") rfl), He.meth_ok (c.fact 70 (f := .meth "Screen" "stand") rfl), FD_Screen_stand.bindsN (fun _ _ _ _ _ _ us hl => match us, hl with | [_, _, _], _ => rfl)⟩
    have D_Screen_put : MethX (PySem.Challenge.rw_steerscreen_k41_whole_text_laid_anew).prog w (ctx K).K mg base CX0 (ctx K).cScreen "put" 6 ["self", "sign"] (sp_Screen_put (ctx K)) := ⟨_, fd_Screen_put, (ok_Screen_put (funD_fun FD_Screen_put) T (rd_Screen_put FFScreen FFRow) (by intro vs H Q E h; repeat (first | (obtain ⟨rfl, _⟩ := h; rfl) | (obtain ⟨_, h⟩ := h))) D_Screen_down D_Screen_stand), He.cls_ok (c.fact 48 (f := .cls "Screen") rfl), He.meth_ok (c.fact 71 (f := .meth "Screen" "put") rfl), FD_Screen_put.bindsN (fun _ _ _ _ _ _ us hl => match us, hl with | [_, _], _ => rfl)⟩
    have D_Screen_roll_down : MethX (PySem.Challenge.rw_steerscreen_k41_whole_text_laid_anew).prog w (ctx K).K mg base CX0 (ctx K).cScreen "roll_down" 4 ["self", "top", "many"] (sp_Screen_roll_down (ctx K)) := ⟨_, fd_Screen_roll_down, (ok_Screen_roll_down (funD_fun FD_Screen_roll_down) T (rd_Screen_roll_down FFScreen) (by intro vs H Q E h; repeat (first | (obtain ⟨rfl, _⟩ := h; rfl) | (obtain ⟨_, h⟩ := h))) D_blank_row D_Screen_cut_off), He.cls_ok (c.fact 48 (f := .cls "Screen") rfl), He.meth_ok (c.fact 73 (f := .meth "Screen" "roll_down") rfl), FD_Screen_roll_down.bindsN (fun _ _ _ _ _ _ us hl => match us, hl with | [_, _, _], _ => rfl)⟩
    have D_Screen_up : MethX (PySem.Challenge.rw_steerscreen_k41_whole_text_laid_anew).prog w (ctx K).K mg base CX0 (ctx K).cScreen "up" 5 ["self"] (sp_Screen_up (ctx K)) := ⟨_, fd_Screen_up, (ok_Screen_up (funD_fun FD_Screen_up) T (rd_Screen_up FFScreen) (by intro vs H Q E h; repeat (first | (obtain ⟨rfl, _⟩ := h; rfl) | (obtain ⟨_, h⟩ := h))) D_Screen_roll_down), He.cls_ok (c.fact 48 (f := .cls "Screen") rfl), He.meth_ok (c.fact 76 (f := .meth "Screen" "up") rfl), FD_Screen_up.bindsN (fun _ _ _ _ _ _ us hl => match us, hl with | [_], _ => rfl)⟩
    have D_Screen_erase : MethX (PySem.Challenge.rw_steerscreen_k41_whole_text_laid_anew).prog w (ctx K).K mg base CX0 (ctx K).cScreen "erase" 4 ["self", "word"] (sp_Screen_erase (ctx K)) := ⟨_, fd_Screen_erase, (ok_Screen_erase (funD_fun FD_Screen_erase) T (rd_Screen_erase FFTups FFScreen FFRow) (by intro vs H Q E h; repeat (first | (obtain ⟨rfl, _⟩ := h; rfl) | (obtain ⟨_, h⟩ := h))) D_blank_row), He.cls_ok (c.fact 48 (f := .cls "Screen") rfl), He.meth_ok (c.fact 78 (f := .meth "Screen" "erase") rfl), FD_Screen_erase.bindsN (fun _ _ _ _ _ _ us hl => match us, hl with | [_, _], _ => rfl)⟩
    have D_Screen_small : MethX (PySem.Challenge.rw_steerscreen_k41_whole_text_laid_anew).prog w (ctx K).K mg base CX0 (ctx K).cScreen "small" 6 ["self", "word"] (sp_Screen_small (ctx K)) := ⟨_, fd_Screen_small, (ok_Screen_small (funD_fun FD_Screen_small) T (rd_Screen_small FFScreen) (by intro vs H Q E h; repeat (first | (obtain ⟨rfl, _⟩ := h; rfl) | (obtain ⟨_, h⟩ := h))) D_Screen_stand D_Screen_down D_Screen_up D_Screen_erase D_Screen_begin), He.cls_ok (c.fact 48 (f := .cls "Screen") rfl), He.meth_ok (c.fact 77 (f := .meth "Screen" "small") rfl), FD_Screen_small.bindsN (fun _ _ _ _ _ _ us hl => match us, hl with | [_, _], _ => rfl)⟩
    have D_Screen_shift : MethX (PySem.Challenge.rw_steerscreen_k41_whole_text_laid_anew).prog w (ctx K).K mg base CX0 (ctx K).cScreen "shift" 1 ["self", "word", "many"] (sp_Screen_shift (ctx K)) := ⟨_, fd_Screen_shift, (ok_Screen_shift (funD_fun FD_Screen_shift) T (rd_Screen_shift FFTups FFScreen FFRow) (by intro vs H Q E h; repeat (first | (obtain ⟨rfl, _⟩ := h; rfl) | (obtain ⟨_, h⟩ := h))) ), He.cls_ok (c.fact 48 (f := .cls "Screen") rfl), He.meth_ok (c.fact 82 (f := .meth "Screen" "shift") rfl), FD_Screen_shift.bindsN (fun _ _ _ _ _ _ us hl => match us, hl with | [_, _, _], _ => rfl)⟩
    have D_Screen_take_rows : MethX (PySem.Challenge.rw_steerscreen_k41_whole_text_laid_anew).prog w (ctx K).K mg base CX0 (ctx K).cScreen "take_rows" 5 ["self", "number"] (sp_Screen_take_rows (ctx K)) := ⟨_, fd_Screen_take_rows, (ok_Screen_take_rows (funD_fun FD_Screen_take_rows) T (rd_Screen_take_rows FFScreen) (by intro vs H Q E h; repeat (first | (obtain ⟨rfl, _⟩ := h; rfl) | (obtain ⟨_, h⟩ := h))) D_Screen_roll), He.cls_ok (c.fact 48 (f := .cls "Screen") rfl), He.meth_ok (c.fact 81 (f := .meth "Screen" "take_rows") rfl), FD_Screen_take_rows.bindsN (fun _ _ _ _ _ _ us hl => match us, hl with | [_, _], _ => rfl)⟩
    have D_Screen_one : MethX (PySem.Challenge.rw_steerscreen_k41_whole_text_laid_anew).prog w (ctx K).K mg base CX0 (ctx K).cScreen "one" 7 ["self", "word", "number"] (sp_Screen_one (ctx K)) := ⟨_, fd_Screen_one, (ok_Screen_one (funD_fun FD_Screen_one) T (rd_Screen_one FFScreen) (by intro vs H Q E h; repeat (first | (obtain ⟨rfl, _⟩ := h; rfl) | (obtain ⟨_, h⟩ := h))) D_Screen_shift D_Screen_take_rows D_Screen_roll_down D_Screen_stand D_Screen_put), He.cls_ok (c.fact 48 (f := .cls "Screen") rfl), He.meth_ok (c.fact 80 (f := .meth "Screen" "one") rfl), FD_Screen_one.bindsN (fun _ _ _ _ _ _ us hl => match us, hl with | [_, _, _], _ => rfl)⟩
    have D_Screen_great : MethX (PySem.Challenge.rw_steerscreen_k41_whole_text_laid_anew).prog w (ctx K).K mg base CX0 (ctx K).cScreen "great" 8 ["self", "word", "numbers"] (sp_Screen_great (ctx K)) := ⟨_, fd_Screen_great, (ok_Screen_great (funD_fun FD_Screen_great) T (rd_Screen_great FFScreen) (by intro vs H Q E h; repeat (first | (obtain ⟨rfl, _⟩ := h; rfl) | (obtain ⟨_, h⟩ := h))) D_Screen_stand D_Screen_one), He.cls_ok (c.fact 48 (f := .cls "Screen") rfl), He.meth_ok (c.fact 79 (f := .meth "Screen" "great") rfl), FD_Screen_great.bindsN (fun _ _ _ _ _ _ us hl => match us, hl with | [_, _, _], _ => rfl)⟩
    have D_Screen_do : MethX (PySem.Challenge.rw_steerscreen_k41_whole_text_laid_anew).prog w (ctx K).K mg base CX0 (ctx K).cScreen "do" 9 ["self", "one"] (sp_Screen_do (ctx K)) := ⟨_, fd_Screen_do, (ok_Screen_do (funD_fun FD_Screen_do) T (rd_Screen_do FFScreen) (by intro vs H Q E h; repeat (first | (obtain ⟨rfl, _⟩ := h; rfl) | (obtain ⟨_, h⟩ := h))) D_Screen_put D_Screen_down D_Screen_stand D_Screen_small D_Screen_great), He.cls_ok (c.fact 48 (f := .cls "Screen") rfl), He.meth_ok (c.fact 69 (f := .meth "Screen" "do") rfl), FD_Screen_do.bindsN (fun _ _ _ _ _ _ us hl => match us, hl with | [_, _], _ => rfl)⟩
    have D_Screen_feed : MethX (PySem.Challenge.rw_steerscreen_k41_whole_text_laid_anew).prog w (ctx K).K mg base (L2.CX _ w) (ctx K).cScreen "feed" 10 ["self", "text"] (sp_Screen_feed (ctx K)) := ⟨_, fd_Screen_feed, (ok_Screen_feed (funD_fun FD_Screen_feed) T (rd_Screen_feed FFScreen FFReader) (by intro vs H Q E h; repeat (first | (obtain ⟨rfl, _⟩ := h; rfl) | (obtain ⟨_, h⟩ := h))) D_Reader_feed D_Screen_do), He.cls_ok (c.fact 48 (f := .cls "Screen") rfl), He.meth_ok (c.fact 68 (f := .meth "Screen" "feed") rfl), FD_Screen_feed.bindsN (fun _ _ _ _ _ _ us hl => match us, hl with | [_, _], _ => rfl)⟩
    have D__law_rows : DefX (PySem.Challenge.rw_steerscreen_k41_whole_text_laid_anew).prog w (ctx K).K mg base CX0 "_law_rows" 1 ["_law_lines", "_law_wide"] (sp__law_rows (ctx K)) := ⟨_, fd__law_rows, (ok__law_rows (funD_fun FD__law_rows) T rd__law_rows (by intro vs H Q E h; repeat (first | (obtain ⟨rfl, _⟩ := h; rfl) | (obtain ⟨_, h⟩ := h))) ), He.glo_ok X G (c.fact 101 (f := .glo "_law_rows") rfl), FD__law_rows.kp, FD__law_rows.bindsN (fun _ _ _ _ _ _ us hl => match us, hl with | [_, _], _ => rfl)⟩
    have D_Screen_kept : MethX (PySem.Challenge.rw_steerscreen_k41_whole_text_laid_anew).prog w (ctx K).K mg base CX0 (ctx K).cScreen "kept" 1 ["self"] (sp_Screen_kept (ctx K)) := ⟨_, fd_Screen_kept, (ok_Screen_kept (funD_fun FD_Screen_kept) T (rd_Screen_kept FFScreen FFRow) (by intro vs H Q E h; repeat (first | (obtain ⟨rfl, _⟩ := h; rfl) | (obtain ⟨_, h⟩ := h))) ), He.cls_ok (c.fact 48 (f := .cls "Screen") rfl), He.meth_ok (c.fact 66 (f := .meth "Screen" "kept") rfl), FD_Screen_kept.bindsN (fun _ _ _ _ _ _ us hl => match us, hl with | [_], _ => rfl)⟩
    have D_Screen_texts : MethX (PySem.Challenge.rw_steerscreen_k41_whole_text_laid_anew).prog w (ctx K).K mg base CX0 (ctx K).cScreen "texts" 1 ["self"] (sp_Screen_texts (ctx K)) := ⟨_, fd_Screen_texts, (ok_Screen_texts (funD_fun FD_Screen_texts) T (rd_Screen_texts FFScreen FFRow) (by intro vs H Q E h; repeat (first | (obtain ⟨rfl, _⟩ := h; rfl) | (obtain ⟨_, h⟩ := h))) ), He.cls_ok (c.fact 48 (f := .cls "Screen") rfl), He.meth_ok (c.fact 65 (f := .meth "Screen" "texts") rfl), FD_Screen_texts.bindsN (fun _ _ _ _ _ _ us hl => match us, hl with | [_], _ => rfl)⟩
    have D_Screen_cursor : MethX (PySem.Challenge.rw_steerscreen_k41_whole_text_laid_anew).prog w (ctx K).K mg base CX0 (ctx K).cScreen "cursor" 1 ["self"] (sp_Screen_cursor (ctx K)) := ⟨_, fd_Screen_cursor, (ok_Screen_cursor (funD_fun FD_Screen_cursor) T (rd_Screen_cursor FFScreen) (by intro vs H Q E h; repeat (first | (obtain ⟨rfl, _⟩ := h; rfl) | (obtain ⟨_, h⟩ := h))) ), He.cls_ok (c.fact 48 (f := .cls "Screen") rfl), He.meth_ok (c.fact 67 (f := .meth "Screen" "cursor") rfl), FD_Screen_cursor.bindsN (fun _ _ _ _ _ _ us hl => match us, hl with | [_], _ => rfl)⟩
    have D__law_right : DefX (PySem.Challenge.rw_steerscreen_k41_whole_text_laid_anew).prog w (ctx K).K mg base CX0 "_law_right" 2 ["_law_screen", "_law_lines", "_law_wide", "_law_high"] (sp__law_right (ctx K)) := ⟨_, fd__law_right, (ok__law_right (funD_fun FD__law_right) T (rd__law_right FFScreen) (by intro vs H Q E h; repeat (first | (obtain ⟨rfl, _⟩ := h; rfl) | (obtain ⟨_, h⟩ := h))) D__law_rows D_Screen_kept D_Screen_texts D_Screen_cursor), He.glo_ok X G (c.fact 102 (f := .glo "_law_right") rfl), FD__law_right.kp, FD__law_right.bindsN (fun _ _ _ _ _ _ us hl => match us, hl with | [_, _, _, _], _ => rfl)⟩
    have D_is_blank : DefX (PySem.Challenge.rw_steerscreen_k41_whole_text_laid_anew).prog w (ctx K).K mg base CX0 "is_blank" 1 ["row"] (sp_is_blank (ctx K)) := ⟨_, fd_is_blank, (ok_is_blank (funD_fun FD_is_blank) T (rd_is_blank FFTups FFRow) (by intro vs H Q E h; repeat (first | (obtain ⟨rfl, _⟩ := h; rfl) | (obtain ⟨_, h⟩ := h))) ), He.glo_ok X G (c.fact 93 (f := .glo "is_blank") rfl), FD_is_blank.kp, FD_is_blank.bindsN (fun _ _ _ _ _ _ us hl => match us, hl with | [_], _ => rfl)⟩
    have D_Line_init : InitX (PySem.Challenge.rw_steerscreen_k41_whole_text_laid_anew).prog w (ctx K).K mg base CX0 "Line" (ctx K).cLine 1 ["self", "cells", "place"] (sp_Line_init (ctx K)) := ⟨_, fd_Line_init, (ok_Line_init (funD_fun FD_Line_init) T (rd_Line_init FFLine) (by intro vs H Q E h; repeat (first | (obtain ⟨rfl, _⟩ := h; rfl) | (obtain ⟨_, h⟩ := h))) ), He.mkr_ok (c.fact 85 (f := .mkr "Line") rfl), He.glo_ok X G (c.fact 83 (f := .glo "Line") rfl), FD_Line_init.bindsN (fun _ _ _ _ _ _ us hl => match us, hl with | [_, _, _], _ => rfl)⟩
    have D_lines_of : DefX (PySem.Challenge.rw_steerscreen_k41_whole_text_laid_anew).prog w (ctx K).K mg base CX0 "lines_of" 3 ["screen"] (sp_lines_of (ctx K)) := ⟨_, fd_lines_of, (ok_lines_of (funD_fun FD_lines_of) T (rd_lines_of FFScreen FFRow FFLine) (by intro vs H Q E h; repeat (first | (obtain ⟨rfl, _⟩ := h; rfl) | (obtain ⟨_, h⟩ := h))) D_is_blank D_Line_init), He.glo_ok X G (c.fact 95 (f := .glo "lines_of") rfl), FD_lines_of.kp, FD_lines_of.bindsN (fun _ _ _ _ _ _ us hl => match us, hl with | [_], _ => rfl)⟩
    have D_trimmed : DefX (PySem.Challenge.rw_steerscreen_k41_whole_text_laid_anew).prog w (ctx K).K mg base CX0 "trimmed" 1 ["cells", "least"] (sp_trimmed (ctx K)) := ⟨_, fd_trimmed, (ok_trimmed (funD_fun FD_trimmed) T (rd_trimmed FFTups) (by intro vs H Q E h; repeat (first | (obtain ⟨rfl, _⟩ := h; rfl) | (obtain ⟨_, h⟩ := h))) ), He.glo_ok X G (c.fact 94 (f := .glo "trimmed") rfl), FD_trimmed.kp, FD_trimmed.bindsN (fun _ _ _ _ _ _ us hl => match us, hl with | [_, _], _ => rfl)⟩
    have D_laid : DefX (PySem.Challenge.rw_steerscreen_k41_whole_text_laid_anew).prog w (ctx K).K mg base CX0 "laid" 3 ["line", "wide"] (sp_laid (ctx K)) := ⟨_, fd_laid, (ok_laid (funD_fun FD_laid) T (rd_laid FFTups FFLine) (by intro vs H Q E h; repeat (first | (obtain ⟨rfl, _⟩ := h; rfl) | (obtain ⟨_, h⟩ := h))) D_trimmed D_Row_init), He.glo_ok X G (c.fact 96 (f := .glo "laid") rfl), FD_laid.kp, FD_laid.bindsN (fun _ _ _ _ _ _ us hl => match us, hl with | [_, _], _ => rfl)⟩
    have D_all_laid : DefX (PySem.Challenge.rw_steerscreen_k41_whole_text_laid_anew).prog w (ctx K).K mg base CX0 "all_laid" 4 ["screen", "wide"] (sp_all_laid (ctx K)) := ⟨_, fd_all_laid, (ok_all_laid (funD_fun FD_all_laid) T rd_all_laid (by intro vs H Q E h; repeat (first | (obtain ⟨rfl, _⟩ := h; rfl) | (obtain ⟨_, h⟩ := h))) D_lines_of D_laid), He.glo_ok X G (c.fact 97 (f := .glo "all_laid") rfl), FD_all_laid.kp, FD_all_laid.bindsN (fun _ _ _ _ _ _ us hl => match us, hl with | [_, _], _ => rfl)⟩
    have D_resize : DefX (PySem.Challenge.rw_steerscreen_k41_whole_text_laid_anew).prog w (ctx K).K mg base (L2.CX _ w) "resize" 5 ["screen", "wide", "high"] (sp_resize (ctx K)) := ⟨_, fd_resize, (ok_resize (funD_fun FD_resize) T (rd_resize FFScreen FFRow) (by intro vs H Q E h; repeat (first | (obtain ⟨rfl, _⟩ := h; rfl) | (obtain ⟨_, h⟩ := h))) D_need_size D_is_count D_all_laid D_blank_row D_Screen_stand), He.glo_ok X G (c.fact 98 (f := .glo "resize") rfl), FD_resize.kp, FD_resize.bindsN (fun _ _ _ _ _ _ us hl => match us, hl with | [_, _, _], _ => rfl)⟩
    exact (ok_law (c := ctx K) (funD_fun FD_law) T (rd_law FFScreen) (by intro vs H Q E h; repeat (first | (obtain ⟨rfl, _⟩ := h; rfl) | (obtain ⟨_, h⟩ := h))) D__law_drawn D__law_cell D_Screen_init D_Screen_feed D__law_right D_resize).mono (by decide)
end Ss
open PySem PySem.W PySem.Calls PyProof.Rows in
theorem PySem.Challenge.cw_steerscreen_k41_whole_text_laid_anew_holds : PySem.Challenge.rw_steerscreen_k41_whole_text_laid_anew.Holds := by
  w_on; o_law
  refine HandSHeadRun.head_any (r := OpenLaw.row PySem.Challenge.rw_steerscreen_k41_whole_text_laid_anew) (q := view (OpenLaw.row PySem.Challenge.rw_steerscreen_k41_whole_text_laid_anew).prog [45]) (H := Ss.hkk) (ob := Ss.ob) (M := 5000) (loose := Ss.loose) (d := HandSHeadRun.topDef (OpenLaw.row PySem.Challenge.rw_steerscreen_k41_whole_text_laid_anew).prog 45) (kwd := []) Ss.ob_eq
    (by kernel_rfl) (fun s => by kernel_rfl) Ss.run (by kernel_rfl) (by kernel_rfl) (by kernel_rfl) (by rfl) (by first | assumption | decide +kernel) (by decide +kernel) ⟨rfl, rfl, rfl, rfl, rfl, by decide +kernel⟩ ?hw ?hc
  case hw => w_witness2
  case hc =>
    refine LamX.walk_ofTsE (l := PySem.Challenge.rw_steerscreen_k41_whole_text_laid_anew) (n := 63) (k := 11) (x := "_law_script") (CX := fun _ => L2.CX0) rfl (by decide) (by kernel_rfl) ⟨rfl, by decide, by decide⟩ ?F (fun _ _ _ _ _ z => z)
    intro w mg fa h Y G hmg0
    have hmg : mg ("law" : PySem.Str) = some (.ref fa) := by
      have e : (HandSHeadRun.topDef (OpenLaw.row PySem.Challenge.rw_steerscreen_k41_whole_text_laid_anew).prog 45).name = ("law" : PySem.Str) := by kernel_rfl
      rw [← e]
      exact hmg0
    exact Ss.law_at G hmg Y
