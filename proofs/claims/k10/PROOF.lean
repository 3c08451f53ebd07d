import PyProof.Rows.All
import Wide.All
import OpenK.AllK
import Wide.FinOn
import HandS.ForMost
import HandS.ForExc
import HandS.Evl
import HandS.Wide
import HandS.WideBits
import HandS.Conv
import HandS.TupAny
import HandS.TupMul
import HandS.StrMore
import HandS.ReplaceLit
import HandS.ReplaceList
import HandS.Style
import HandS.Lambda
import HandS.EndTab
import HandS.CallRecv
import HandS.IsInst
import HandS.Steps
import PyProof.Rows.RegReprOcc
import HandS.Head0
import HandS.Head1
import HandS.Head2
import HandS.HeadHook4
import HandS.HeadWalk
import PySem.Challenge.RW_steerscreen_k10_whole_signs_read
set_option Elab.async false
set_option linter.all false
set_option maxRecDepth 100000
set_option maxHeartbeats 4000000
/-! ## Part 1: the split heap: F stands still (but for code tables), L is one's own -/
namespace Ss
open PySem PySem.Spec PyProof.Rows L2

abbrev Gr (F F' : Hp) : Prop := LamX.ExtN F F'
theorem Gr.refl (F : Hp) : Gr F F := LamX.ExtN.refl F
theorem Gr.trans {F F1 F2 : Hp} (a : Gr F F1) (b : Gr F1 F2) : Gr F F2 := LamX.ExtN.trans a b
theorem Gr.of {F F' : Hp} (e : Same F F') : Gr F F' := fun b o h _ => e b o h
theorem Gr.lst {F F' : Hp} (g : Gr F F') {a : Addr} {xs : List V} (h : F a = some (.lst xs)) : F' a = some (.lst xs) := g a _ h (fun _ z => by cases z)
theorem Gr.tup {F F' : Hp} (g : Gr F F') {a : Addr} {xs : List V} (h : F a = some (.tup xs)) : F' a = some (.tup xs) := g a _ h (fun _ z => by cases z)
theorem Gr.ins {F F' : Hp} (g : Gr F F') {a C dx : Addr} {xs : List (Str × V)} (h : F a = some (.ins C dx xs)) : F' a = some (.ins C dx xs) := g a _ h (fun _ z => by cases z)
theorem Gr.sqL {K : PySem.W.Frag} {F F' : Hp} {a : Addr} {xs : List V} (g : Gr F F') (h : SqL K F a xs) : SqL K F' a xs := by
  rcases h with (h | ⟨o, h⟩) | h
  · exact .inl (.inl (g _ _ h (fun _ z => by cases z)))
  · exact .inl (.inr ⟨o, g _ _ h (fun _ z => by cases z)⟩)
  · exact .inr h
theorem Gr.sqT {K : PySem.W.Frag} {F F' : Hp} {a : Addr} {xs : List V} (g : Gr F F') (h : SqT K F a xs) : SqT K F' a xs := by
  rcases h with (h | ⟨o, h⟩) | h
  · exact .inl (.inl (g _ _ h (fun _ z => by cases z)))
  · exact .inl (.inr ⟨o, g _ _ h (fun _ z => by cases z)⟩)
  · exact .inr h
mutual
theorem Gr.dp {K : PySem.W.Frag} {F F' : Hp} (g : Gr F F') : ∀ {d : PyData} {v : V}, Dp K F v d → Dp K F' v d
  | .none, _, h => by cases h; exact .non
  | .bool b, _, h => by cases h; exact .bl b
  | .int i, _, h => by cases h; exact .int i
  | .str x, _, h => by cases h; exact .str x
  | .list ds, _, h => by cases h with | lst hs ha => exact .lst (g.sqL hs) (Gr.dpAll g ha)
  | .tuple ds, _, h => by cases h with | tup hs ha => exact .tup (g.sqT hs) (Gr.dpAll g ha)
  | .dict _, _, h => by cases h
theorem Gr.dpAll {K : PySem.W.Frag} {F F' : Hp} (g : Gr F F') : ∀ {ds : List PyData} {vs : List V}, DpAll K F vs ds → DpAll K F' vs ds
  | [], _, h => by cases h; exact .nil
  | d :: ds, _, h => by cases h with | cons h1 h2 => exact .cons (Gr.dp g h1) (Gr.dpAll g h2)
end

/-- F stands (shared, never written), L is owned (may be written): both lie in H, apart -/
structure Hold (F : Hp) (L : List (Addr × HO)) (H : Hp) : Prop where
  old : ∀ a o, F a = some o → H a = some o
  own : ∀ x ∈ L, H x.1 = some x.2
  sep : ∀ x ∈ L, F x.1 = none
  nd : (L.map (·.1)).Nodup
section
variable {F F' H : Hp} {L L' : List (Addr × HO)} {p a : Addr} {o o' : HO} {i : Nat}
theorem Hold.start (H : Hp) : Hold H [] H := ⟨fun _ _ h => h, fun _ h => (nomatch h), fun _ h => (nomatch h), List.nodup_nil⟩
theorem Hold.gr (W : Hold F L H) : Gr F H := fun a o h _ => W.old a o h
theorem Hold.same (W : Hold F L H) : Same F H := W.old
theorem Hold.fresh (W : Hold F L H) (h : H p = none) : F p = none := by
  cases e : F p with
  | none => rfl
  | some o => rw [W.old p o e] at h; cases h
theorem Hold.freshL (W : Hold F L H) (h : H p = none) : ∀ x ∈ L, x.1 ≠ p := fun x hx e => by
  have := W.own x hx
  rw [e, h] at this; cases this
theorem same_new (h : F p = none) : Same F (upd F p o) := fun b u e => by rw [upd_ne (ne_of_none e h)]; exact e
theorem Hold.alloc (W : Hold F L H) (h : H p = none) : Hold (upd F p o) L (upd H p o) where
  old := fun b u e => by
    by_cases hb : b = p
    · subst hb; rw [upd_same] at e ⊢; exact e
    · rw [upd_ne hb] at e ⊢; exact W.old b u e
  own := fun x hx => by rw [upd_ne (W.freshL h x hx)]; exact W.own x hx
  sep := fun x hx => by rw [upd_ne (W.freshL h x hx)]; exact W.sep x hx
  nd := W.nd
theorem Hold.make (W : Hold F L H) (h : H p = none) : Hold F ((p, o) :: L) (upd H p o) where
  old := fun b u e => by rw [upd_ne (ne_of_none (W.old b u e) h)]; exact W.old b u e
  own := fun x hx => by
    rcases List.mem_cons.mp hx with rfl | hx
    · exact upd_same
    · rw [upd_ne (W.freshL h x hx)]; exact W.own x hx
  sep := fun x hx => by
    rcases List.mem_cons.mp hx with rfl | hx
    · exact W.fresh h
    · exact W.sep x hx
  nd := by
    rw [List.map_cons, List.nodup_cons]
    exact ⟨fun hm => by obtain ⟨x, hx, e⟩ := List.mem_map.mp hm; exact W.freshL h x hx e, W.nd⟩
theorem Hold.freeze (W : Hold F ((p, o) :: L) H) : Hold (upd F p o) L H where
  old := fun b u e => by
    by_cases hb : b = p
    · subst hb; rw [upd_same] at e; cases e; exact W.own _ List.mem_cons_self
    · rw [upd_ne hb] at e; exact W.old b u e
  own := fun x hx => W.own x (List.mem_cons_of_mem _ hx)
  sep := fun x hx => by
    have n := W.nd
    rw [List.map_cons, List.nodup_cons] at n
    rw [upd_ne (fun e => n.1 (List.mem_map.mpr ⟨x, hx, e⟩))]; exact W.sep x (List.mem_cons_of_mem _ hx)
  nd := by have n := W.nd; rw [List.map_cons, List.nodup_cons] at n; exact n.2
theorem Hold.freezeS (W : Hold F ((p, o) :: L) H) : Same F (upd F p o) := same_new (W.sep _ List.mem_cons_self)
theorem Hold.sub (W : Hold F L H) (s : List.Sublist L' L) : Hold F L' H :=
  ⟨W.old, fun x hx => W.own x (s.subset hx), fun x hx => W.sep x (s.subset hx), (s.map _).nodup W.nd⟩
theorem Hold.drop {x : Addr × HO} (W : Hold F (x :: L) H) : Hold F L H := W.sub (List.sublist_cons_self _ _)
theorem Hold.nil (W : Hold F L H) : Hold F [] H := W.sub (List.nil_sublist _)
theorem Hold.perm (W : Hold F L H) (s : List.Perm L L') : Hold F L' H :=
  ⟨W.old, fun x hx => W.own x (s.mem_iff.mpr hx), fun x hx => W.sep x (s.mem_iff.mpr hx), (s.map _).nodup_iff.mp W.nd⟩
theorem Hold.get (W : Hold F L H) (i : Nat) (h : L[i]? = some (a, o)) : H a = some o := W.own (a, o) (List.mem_of_getElem? h)
theorem map_fst_set {l : List (Addr × HO)} (h : l[i]? = some (a, o)) : (l.set i (a, o')).map (·.1) = l.map (·.1) := by
  rw [List.map_set]
  apply List.ext_getElem?
  intro j
  rw [List.getElem?_set]
  split
  · rename_i e; subst e
    split
    · rw [List.getElem?_map, h]; rfl
    · rename_i hl
      rw [List.getElem?_eq_none (by omega)]
  · rfl
theorem key_inj : ∀ {l : List (Addr × HO)}, (l.map (·.1)).Nodup → ∀ x ∈ l, ∀ y ∈ l, x.1 = y.1 → x = y
  | [], _, x, hx, _, _, _ => (nomatch hx)
  | z :: l, n, x, hx, y, hy, e => by
    rw [List.map_cons, List.nodup_cons] at n
    rcases List.mem_cons.mp hx with h1 | h1
    · rcases List.mem_cons.mp hy with h2 | h2
      · rw [h1, h2]
      · exact absurd (List.mem_map.mpr ⟨y, h2, by rw [← e, h1]⟩) n.1
    · rcases List.mem_cons.mp hy with h2 | h2
      · exact absurd (List.mem_map.mpr ⟨x, h1, by rw [e, h2]⟩) n.1
      · exact key_inj n.2 x h1 y h2 e
theorem Hold.put (W : Hold F L H) (i : Nat) (h : L[i]? = some (a, o)) : Hold F (L.set i (a, o')) (upd H a o') where
  old := fun b u e => by
    have hs := W.sep (a, o) (List.mem_of_getElem? h)
    rw [upd_ne (ne_of_none e hs)]; exact W.old b u e
  own := fun x hx => by
    rcases List.mem_or_eq_of_mem_set hx with hx' | rfl
    · by_cases e : x.1 = a
      · -- the key stands once
        have hn : ((L.set i (a, o')).map (·.1)).Nodup := by rw [map_fst_set h]; exact W.nd
        have hi : i < L.length := (List.getElem?_eq_some_iff.mp h).1
        have h1 : (L.set i (a, o'))[i]? = some (a, o') := by rw [List.getElem?_set_self hi]
        have z : x = (a, o') := key_inj hn x hx _ (List.mem_of_getElem? h1) e
        rw [z]; exact upd_same
      · rw [upd_ne e]; exact W.own x hx'
    · exact upd_same
  sep := fun x hx => by
    rcases List.mem_or_eq_of_mem_set hx with hx' | rfl
    · exact W.sep x hx'
    · exact W.sep (a, o) (List.mem_of_getElem? h)
  nd := by rw [map_fst_set h]; exact W.nd
/-- the head of one's own -/
theorem Hold.put0 (W : Hold F ((a, o) :: L) H) : Hold F ((a, o') :: L) (upd H a o') := W.put 0 rfl
theorem Hold.get0 (W : Hold F ((a, o) :: L) H) : H a = some o := W.get 0 rfl
theorem Hold.put1 {x : Addr × HO} (W : Hold F (x :: (a, o) :: L) H) : Hold F (x :: (a, o') :: L) (upd H a o') := W.put 1 rfl
theorem Hold.get1 {x : Addr × HO} (W : Hold F (x :: (a, o) :: L) H) : H a = some o := W.get 1 rfl
/-- a new instance -/
theorem Hold.inst {C dx : Addr} (W : Hold F L H) (h : H p = none) (hd : H dx = none) (ne : dx ≠ p) : Hold F ((p, .ins C dx []) :: L) (upd (upd H dx (.own p)) p (.ins C dx [])) := by
  have W1 : Hold F L (upd H dx (.own p)) := (W.make (o := .own p) hd).drop
  exact W1.make (by rw [upd_ne (Ne.symm ne)]; exact h)
/-- the own ones move over into F, for a call that is not to touch them -/
theorem Hold.more (W : Hold F L H) (g : Gr H H) : True := True.intro
end
end Ss
/-! ## Part 2: one rule an operator, whatever the kinds of its operands; bundles of defs -/
namespace Ss
open PySem PySem.Spec PyProof.Rows L2

/-! ### operators -/
def rAddS : R2 := fun x y H Q => ∃ i j, x = .str i ∧ y = .str j ∧ i.length + j.length ≤ sizeLine ∧ Q (.str (i ++ j)) H
def rAddB : R2 := fun x y H Q => ∃ i k, x = .int i ∧ y = .bl k ∧ Q (.int (i + b2i k)) H
def uAdd (K : PySem.W.Frag) : R2 := fun x y H Q => rI0 (fun i j => .int (i + j)) x y H Q ∨ rAddS x y H Q ∨ rCat x y H Q ∨ rCatA K x y H Q ∨ rAddB x y H Q
def uSub : R2 := rI0 fun i j => .int (i - j)
def uMul (K : PySem.W.Frag) : R2 := fun x y H Q => rI CMulX (fun i j => .int (i * j)) x y H Q ∨ rRep x y H Q
def uDiv : R2 := rI CDivW fun i j => .int (i / j)
def uMod : R2 := rI (fun _ j => 0 < j) fun i j => .int (i % j)
def uPow : R2 := rI CPow fun i j => .int (i ^ j.toNat)
def rLtS : R2 := fun x y H Q => ∃ i j, x = .str i ∧ y = .str j ∧ Q (.bl (decide (i.cps.toList < j.cps.toList))) H
def rLeS : R2 := fun x y H Q => ∃ i j, x = .str i ∧ y = .str j ∧ Q (.bl (!decide (j.cps.toList < i.cps.toList))) H
def uLt : R2 := fun x y H Q => rI0 (fun i j => .bl (decide (i < j))) x y H Q ∨ rLtS x y H Q
def uLe : R2 := fun x y H Q => rI0 (fun i j => .bl (decide (i ≤ j))) x y H Q ∨ rLeS x y H Q
def uGt : R2 := rI0 fun i j => .bl (decide (j < i))
def uGe : R2 := rI0 fun i j => .bl (decide (j ≤ i))
def uEq (K : PySem.W.Frag) : R2 := fun x y H Q => rEq x y H Q ∨ rEqD K x y H Q
def uNe (K : PySem.W.Frag) : R2 := fun x y H Q => rNe x y H Q ∨ rNeD K x y H Q
def rInG : R2 := fun x y H Q => ∃ (c : Nat) (z : Str), x = .str ⟨#[c]⟩ ∧ y = .str z ∧ Q (.bl (decide (c ∈ z.cps.toList))) H
def rNotInG : R2 := fun x y H Q => ∃ (c : Nat) (z : Str), x = .str ⟨#[c]⟩ ∧ y = .str z ∧ Q (.bl (!decide (c ∈ z.cps.toList))) H
def uIn (K : PySem.W.Frag) : R2 := fun x y H Q => rInG x y H Q ∨ rIn K false x y H Q
def uNotIn (K : PySem.W.Frag) : R2 := fun x y H Q => rNotInG x y H Q ∨ rIn K true x y H Q
def uIs : R2 := fun x y H Q => y = .non ∧ Q (.bl (decide (x = .non))) H
def uIsNot : R2 := fun x y H Q => y = .non ∧ Q (.bl (!decide (x = .non))) H
section
variable {X : Cx}
theorem oAdd : OpR X (binaryOp .Add) (uAdd X.K) := by
  intro pins s σ H x y v u Q I rx ry h
  rcases h with h | h | h | h | h
  · exact op_add pins s σ H x y v u Q I rx ry h
  · exact op_add_str pins s σ H x y v u Q I rx ry h
  · exact op_cat pins s σ H x y v u Q I rx ry h
  · exact op_catA pins s σ H x y v u Q I rx ry h
  · exact op_add_ib pins s σ H x y v u Q I rx ry h
theorem oSub : OpR X (binaryOp .Sub) uSub := op_sub
theorem oMul : OpR X (binaryOp .Mult) (uMul X.K) := by
  intro pins s σ H x y v u Q I rx ry h
  rcases h with h | h
  · exact op_mulX pins s σ H x y v u Q I rx ry h
  · exact op_rep pins s σ H x y v u Q I rx ry h
theorem oDiv : OpR X (binaryOp .FloorDiv) uDiv := op_fdivW
theorem oMod : OpR X (binaryOp .Mod) uMod := op_mod
theorem oPow : OpR X (binaryOp .Pow) uPow := op_pow
theorem oLt : OpR X (compareOp .Lt) uLt := by
  intro pins s σ H x y v u Q I rx ry h
  rcases h with h | h
  · exact op_lt pins s σ H x y v u Q I rx ry h
  · exact op_lt_str pins s σ H x y v u Q I rx ry h
theorem oLe : OpR X (compareOp .LtE) uLe := by
  intro pins s σ H x y v u Q I rx ry h
  rcases h with h | h
  · exact op_le pins s σ H x y v u Q I rx ry h
  · exact op_le_str pins s σ H x y v u Q I rx ry h
theorem oGt : OpR X (compareOp .Gt) uGt := op_gt
theorem oGe : OpR X (compareOp .GtE) uGe := op_ge
theorem oEq (hu : X.A.units + 64 < cLine) : OpR X (compareOp .Eq) (uEq X.K) := by
  intro pins s σ H x y v u Q I rx ry h
  rcases h with h | h
  · exact op_eq pins s σ H x y v u Q I rx ry h
  · exact op_eqD hu pins s σ H x y v u Q I rx ry h
theorem oNe (hu : X.A.units + 64 < cLine) : OpR X (compareOp .NotEq) (uNe X.K) := by
  intro pins s σ H x y v u Q I rx ry h
  rcases h with h | h
  · exact op_ne pins s σ H x y v u Q I rx ry h
  · exact op_neD hu pins s σ H x y v u Q I rx ry h
theorem oIn : OpR X (compareOp .In) (uIn X.K) := by
  intro pins s σ H x y v u Q I rx ry h
  rcases h with h | h
  · exact op_in_sign pins s σ H x y v u Q I rx ry h
  · exact op_in_seq pins s σ H x y v u Q I rx ry h
theorem oNotIn : OpR X (compareOp .NotIn) (uNotIn X.K) := by
  intro pins s σ H x y v u Q I rx ry h
  rcases h with h | h
  · exact op_notIn_sign pins s σ H x y v u Q I rx ry h
  · exact op_notIn_seq pins s σ H x y v u Q I rx ry h
theorem oIs : OpR X (compareOp .Is) uIs := op_isN
theorem oIsNot : OpR X (compareOp .IsNot) uIsNot := op_notN
end

/-! ### leaves of operators -/
section
variable {K : PySem.W.Frag} {H F : Hp} {L : List (Addr × HO)} {Q : VK} {i j : Int} {a b : Str} {p q : Addr} {xs ys : List V} {x y : V} {c : Nat}
theorem l_addI (h : Q (.int (i + j)) H) : uAdd K (.int i) (.int j) H Q := .inl ⟨_, _, rfl, rfl, h⟩
theorem l_addS (hl : a.length + b.length ≤ sizeLine) (h : Q (.str (a ++ b)) H) : uAdd K (.str a) (.str b) H Q := .inr (.inl ⟨_, _, rfl, rfl, hl, h⟩)
theorem l_addL (hp : H p = some (.lst xs)) (hq : H q = some (.lst ys)) (hl : xs.length + ys.length ≤ sizeLine) (h : ∀ r, H r = none → Q (.ref r) (upd H r (.lst (xs ++ ys)))) : uAdd K (.ref p) (.ref q) H Q :=
  .inr (.inr (.inl ⟨_, _, _, _, rfl, rfl, hp, hq, hl, h⟩))
theorem l_addT (hp : SqT K H p xs) (hq : SqT K H q ys) (hl : xs.length + ys.length ≤ sizeLine) (h0 : xs = [] → Q (.ref q) H) (h1 : xs ≠ [] → ys = [] → Q (.ref p) H) (h : xs ≠ [] → ys ≠ [] → ∀ r, H r = none → Q (.ref r) (upd H r (.tup (xs ++ ys)))) : uAdd K (.ref p) (.ref q) H Q :=
  .inr (.inr (.inr (.inl ⟨_, _, _, _, rfl, rfl, hp, hq, hl, h0, h1, h⟩)))
theorem l_addB {k : Bool} (h : Q (.int (i + b2i k)) H) : uAdd K (.int i) (.bl k) H Q := .inr (.inr (.inr (.inr ⟨_, _, rfl, rfl, h⟩)))
theorem l_subI (h : Q (.int (i - j)) H) : uSub (.int i) (.int j) H Q := ⟨_, _, rfl, rfl, h⟩
theorem l_mulI (hc : CMulX i j) (h : Q (.int (i * j)) H) : uMul K (.int i) (.int j) H Q := .inl ⟨_, _, rfl, rfl, hc, h⟩
theorem l_mulL (hp : H p = some (.lst xs)) (h1 : -(2 ^ 63) ≤ j) (h2 : j < 2 ^ 63) (hl : xs.length * j.toNat ≤ sizeLine) (h : ∀ r, H r = none → Q (.ref r) (upd H r (.lst (List.replicate j.toNat xs).flatten))) : uMul K (.ref p) (.int j) H Q :=
  .inr ⟨_, _, _, rfl, rfl, hp, h1, h2, hl, h⟩
theorem l_divI (hc : CDivW i j) (h : Q (.int (i / j)) H) : uDiv (.int i) (.int j) H Q := ⟨_, _, rfl, rfl, hc, h⟩
theorem l_modI (hc : 0 < j) (h : Q (.int (i % j)) H) : uMod (.int i) (.int j) H Q := ⟨_, _, rfl, rfl, hc, h⟩
theorem l_powI (hc : CPow i j) (h : Q (.int (i ^ j.toNat)) H) : uPow (.int i) (.int j) H Q := ⟨_, _, rfl, rfl, hc, h⟩
theorem l_ltI (h : Q (.bl (decide (i < j))) H) : uLt (.int i) (.int j) H Q := .inl ⟨_, _, rfl, rfl, h⟩
theorem l_ltS (h : Q (.bl (decide (a.cps.toList < b.cps.toList))) H) : uLt (.str a) (.str b) H Q := .inr ⟨_, _, rfl, rfl, h⟩
theorem l_leI (h : Q (.bl (decide (i ≤ j))) H) : uLe (.int i) (.int j) H Q := .inl ⟨_, _, rfl, rfl, h⟩
theorem l_leS (h : Q (.bl (!decide (b.cps.toList < a.cps.toList))) H) : uLe (.str a) (.str b) H Q := .inr ⟨_, _, rfl, rfl, h⟩
theorem l_gtI (h : Q (.bl (decide (j < i))) H) : uGt (.int i) (.int j) H Q := ⟨_, _, rfl, rfl, h⟩
theorem l_geI (h : Q (.bl (decide (j ≤ i))) H) : uGe (.int i) (.int j) H Q := ⟨_, _, rfl, rfl, h⟩
theorem l_eq (hs : scal x y = true) (h : Q (.bl (decide (x = y))) H) : uEq K x y H Q := .inl ⟨hs, h⟩
theorem l_ne (hs : scal x y = true) (h : Q (.bl (!decide (x = y))) H) : uNe K x y H Q := .inl ⟨hs, h⟩
theorem l_eqD {d e : PyData} (hx : Dp K H x d) (hy : Dp K H y e) (sd : SeqAt.shaped d = true) (se : SeqAt.shaped e = true) (h : Q (.bl (PyData.eqv d e)) H) : uEq K x y H Q := .inr ⟨d, e, hx, hy, sd, se, h⟩
theorem l_neD {d e : PyData} (hx : Dp K H x d) (hy : Dp K H y e) (sd : SeqAt.shaped d = true) (se : SeqAt.shaped e = true) (h : Q (.bl (!PyData.eqv d e)) H) : uNe K x y H Q := .inr ⟨d, e, hx, hy, sd, se, h⟩
theorem l_inS (h : Q (.bl (decide (c ∈ b.cps.toList))) H) : uIn K (.str ⟨#[c]⟩) (.str b) H Q := .inl ⟨c, b, rfl, rfl, h⟩
theorem l_niS (h : Q (.bl (!decide (c ∈ b.cps.toList))) H) : uNotIn K (.str ⟨#[c]⟩) (.str b) H Q := .inl ⟨c, b, rfl, rfl, h⟩
theorem l_inT (hp : SqL K H p xs ∨ SqT K H p xs) (hx : flatV x = true) (ha : xs.all flatV = true) (h : Q (.bl (inV x xs)) H) : uIn K x (.ref p) H Q := .inr ⟨p, xs, rfl, hp, hx, ha, h⟩
theorem l_niT (hp : SqL K H p xs ∨ SqT K H p xs) (hx : flatV x = true) (ha : xs.all flatV = true) (h : Q (.bl (!inV x xs)) H) : uNotIn K x (.ref p) H Q := .inr ⟨p, xs, rfl, hp, hx, ha, h⟩
theorem l_is (h : Q (.bl (decide (x = .non))) H) : uIs x .non H Q := ⟨rfl, h⟩
theorem l_isn (h : Q (.bl (!decide (x = .non))) H) : uIsNot x .non H Q := ⟨rfl, h⟩
end

/-! ### subscripts, slices, built-ins -/
def uIx (K : PySem.W.Frag) : R2 := rIx K
def uSl (K : PySem.W.Frag) : V → Option Int → Option Int → Hp → VK → Prop := fun x lo hi H Q => rSlL K x lo hi H Q ∨ rSlS x lo hi H Q ∨ rSlA K x lo hi H Q
def uLen (K : PySem.W.Frag) : List V → Hp → VK → Prop := fun xs H Q => (∃ x n, xs = [x] ∧ LenV K x H n ∧ Q (.int n) H) ∨ ∃ a kvs, xs = [V.ref a] ∧ H a = some (.dK kvs) ∧ Q (.int kvs.length) H
def uInt : List V → Hp → VK → Prop := fun xs H Q => (∃ i, xs = [.int i] ∧ Q (.int i) H) ∨ (∃ k, xs = [.bl k] ∧ Q (.int (if k then 1 else 0)) H) ∨ ∃ a n, xs = [.str a] ∧ PySem.intText? a = some n ∧ a.length ≤ 640 ∧ Q (.int n) H
def uStr : List V → Hp → VK → Prop := fun xs H Q => ∃ i, xs = [.int i] ∧ i.natAbs.log2 < 1920 ∧ Q (.str (toString i)) H
def uMax : List V → Hp → VK → Prop := fun xs H Q => ∃ i j, xs = [.int i, .int j] ∧ Q (.int (if j > i then j else i)) H
def uMin : List V → Hp → VK → Prop := fun xs H Q => ∃ i j, xs = [.int i, .int j] ∧ Q (.int (if j < i then j else i)) H
def uOrd : List V → Hp → VK → Prop := fun xs H Q => ∃ x, xs = [.str x] ∧ x.length = 1 ∧ Q (.int (x.cps.getD 0 0 : Nat)) H
def uList (K : PySem.W.Frag) : List V → Hp → VK → Prop := fun xs H Q => ∃ p ys, xs = [.ref p] ∧ (SqL K H p ys ∨ SqT K H p ys) ∧ ∀ l, H l = none → Q (.ref l) (upd H l (.lst ys))
def uTuple (K : PySem.W.Frag) : List V → Hp → VK → Prop := fun xs H Q => ∃ p ys, xs = [.ref p] ∧ ((SqL K H p ys ∧ ∀ l, H l = none → Q (.ref l) (upd H l (.tup ys))) ∨ (SqT K H p ys ∧ Q (.ref p) H))
section
variable {X : Cx}
theorem iIx : IxR X (uIx X.K) := ix_seq
theorem sSl : SlR X (uSl X.K) := by
  intro pins s σ H x v vl vu lo hi sl Q I rx hs pl pu h
  rcases h with h | h | h
  · exact sl_list pins s σ H x v vl vu lo hi sl Q I rx hs pl pu h
  · exact sl_str pins s σ H x v vl vu lo hi sl Q I rx hs pl pu h
  · exact sl_tupA pins s σ H x v vl vu lo hi sl Q I rx hs pl pu h
theorem cLen : CallR X (.builtin "len") (uLen X.K) := by
  intro pins s σ H xs us Q I r h
  rcases h with h | h
  · exact call_len pins s σ H xs us Q I r h
  · exact call_lenD pins s σ H xs us Q I r h
theorem cInt : CallR X (.type "int") uInt := by
  intro pins s σ H xs us Q I r h
  rcases h with h | h | h
  · exact call_int1 pins s σ H xs us Q I r (.inl h)
  · exact call_int1 pins s σ H xs us Q I r (.inr h)
  · exact call_int_str pins s σ H xs us Q I r h
theorem cStr : CallR X (.type "str") uStr := call_str_int
theorem cMax (hc : X.calm = true) : CallR X (.builtin "max") uMax := call_max2 hc
theorem cMin (hc : X.calm = true) : CallR X (.builtin "min") uMin := call_min2 hc
theorem cOrd : CallR X (.builtin "ord") uOrd := call_ord
theorem cList : CallR X (.type "list") (uList X.K) := call_list_of
theorem cTuple : CallR X (.type "tuple") (uTuple X.K) := call_tuple_of
end
end Ss
/-! ## Part 3: leaves of subscripts, built-ins; displays; calls; one step lemma a construct -/
namespace Ss
open PySem PySem.Spec PyProof.Rows L2

section
variable {K : PySem.W.Frag} {H F : Hp} {L : List (Addr × HO)} {Q : VK} {i j : Int} {a b : Str} {p q : Addr} {xs ys : List V} {x y v : V} {c : Nat} {lo hi : Option Int}
theorem l_ixL (hp : SqL K H p xs) (ha : atI xs i = some v) (h : Q v H) : uIx K (.ref p) (.int i) H Q := .inl ⟨_, _, _, _, rfl, rfl, hp, ha, h⟩
theorem l_ixT (hp : SqT K H p xs) (ha : atI xs i = some v) (h : Q v H) : uIx K (.ref p) (.int i) H Q := .inr (.inl ⟨_, _, _, _, rfl, rfl, hp, ha, h⟩)
theorem l_ixS (hl : a.length ≤ sizeLine) (ha : atI a.cps.toList i = some c) (h : Q (.str ⟨#[c]⟩) H) : uIx K (.str a) (.int i) H Q := .inr (.inr ⟨_, _, _, rfl, rfl, hl, ha, h⟩)
theorem l_slL (hp : SqL K H p xs) (h : ∀ r, H r = none → Q (.ref r) (upd H r (.lst (cutV xs lo hi)))) : uSl K (.ref p) lo hi H Q := .inl ⟨_, _, rfl, hp, h⟩
theorem l_slS (hl : a.length ≤ sizeLine) (h : Q (.str (cutS a lo hi)) H) : uSl K (.str a) lo hi H Q := .inr (.inl ⟨_, rfl, hl, h⟩)
theorem l_slT (hp : SqT K H p xs) (h1 : HT.sIx xs.length 0 lo = 0 ∧ HT.sIx xs.length xs.length hi = xs.length → Q (.ref p) H)
    (h2 : ¬ (HT.sIx xs.length 0 lo = 0 ∧ HT.sIx xs.length xs.length hi = xs.length) → ∀ r, H r = none → Q (.ref r) (upd H r (.tup (cutV xs lo hi)))) : uSl K (.ref p) lo hi H Q := .inr (.inr ⟨_, _, rfl, hp, h1, h2⟩)
theorem l_lenL (hp : SqL K H p xs) (h : Q (.int xs.length) H) : uLen K [.ref p] H Q := .inl ⟨_, _, rfl, .inl ⟨_, hp, rfl⟩, h⟩
theorem l_lenT (hp : SqT K H p xs) (h : Q (.int xs.length) H) : uLen K [.ref p] H Q := .inl ⟨_, _, rfl, .inr ⟨_, hp, rfl⟩, h⟩
theorem l_lenS (hl : a.length ≤ sizeLine) (h : Q (.int a.length) H) : uLen K [.str a] H Q := .inl ⟨_, _, rfl, ⟨hl, rfl⟩, h⟩
theorem l_lenD {kvs : List (Key × V)} (hp : H p = some (.dK kvs)) (h : Q (.int kvs.length) H) : uLen K [.ref p] H Q := .inr ⟨_, _, rfl, hp, h⟩
theorem l_intI (h : Q (.int i) H) : uInt [.int i] H Q := .inl ⟨_, rfl, h⟩
theorem l_intB {k : Bool} (h : Q (.int (if k then 1 else 0)) H) : uInt [.bl k] H Q := .inr (.inl ⟨_, rfl, h⟩)
theorem l_intS (hn : PySem.intText? a = some i) (hl : a.length ≤ 640) (h : Q (.int i) H) : uInt [.str a] H Q := .inr (.inr ⟨_, _, rfl, hn, hl, h⟩)
theorem l_str (hn : i.natAbs.log2 < 1920) (h : Q (.str (toString i)) H) : uStr [.int i] H Q := ⟨_, rfl, hn, h⟩
theorem l_max (h : Q (.int (max i j)) H) : uMax [.int i, .int j] H Q := ⟨_, _, rfl, by
  have e : (if j > i then j else i) = max i j := by split <;> omega
  rw [e]; exact h⟩
theorem l_min (h : Q (.int (min i j)) H) : uMin [.int i, .int j] H Q := ⟨_, _, rfl, by
  have e : (if j < i then j else i) = min i j := by split <;> omega
  rw [e]; exact h⟩
theorem l_ord (h : Q (.int (c : Nat)) H) : uOrd [.str ⟨#[c]⟩] H Q := ⟨_, rfl, rfl, h⟩
theorem l_list (hp : SqL K H p xs ∨ SqT K H p xs) (h : ∀ r, H r = none → Q (.ref r) (upd H r (.lst xs))) : uList K [.ref p] H Q := ⟨_, _, rfl, hp, h⟩
theorem l_tupleL (hp : SqL K H p xs) (h : ∀ r, H r = none → Q (.ref r) (upd H r (.tup xs))) : uTuple K [.ref p] H Q := ⟨_, _, rfl, .inl ⟨hp, h⟩⟩
theorem l_tupleT (hp : SqT K H p xs) (h : Q (.ref p) H) : uTuple K [.ref p] H Q := ⟨_, _, rfl, .inr ⟨hp, h⟩⟩
end

/-! ### a new object, told at once into F (never written) or into L (one's own) -/
def NewF (o : HO) (H : Hp) (Q : VK) : Prop := ∀ r, H r = none → Q (.ref r) (upd H r o)
section
variable {F H : Hp} {L : List (Addr × HO)} {o : HO} {Q : VK}
theorem newF (W : Hold F L H) (h : ∀ (r : Addr) (F' H' : Hp), Same F F' → F' r = some o → Hold F' L H' → F r = none → Q (.ref r) H') : ∀ r, H r = none → Q (.ref r) (upd H r o) := fun r hr =>
  h r _ _ (same_new (W.fresh hr)) upd_same (W.alloc hr) (W.fresh hr)
theorem newL (W : Hold F L H) (h : ∀ (r : Addr) (H' : Hp), Hold F ((r, o) :: L) H' → Q (.ref r) H') : ∀ r, H r = none → Q (.ref r) (upd H r o) := fun r hr =>
  h r _ (W.make hr)
end

/-! ### a module's constant; calls of defs, methods, classes by one bundle each -/
/-- the module's name x holds v -/
def GlobV (mg : Str → Option Value) (x : Str) (v : V) : Prop := ∃ u, mg x = some u ∧ RelV v u
/-- a call's reading -/
def tF (sp : Sp) (E : XK) (t : TA) : TE := fun σ H Q => t σ H fun vs H1 => sp vs H1 Q E
def tO (C : Addr) (m : Str) (sp : Sp) (E : XK) (ta : TE) (t : TA) : TE := fun σ H Q => ta σ H fun x H1 => ∃ a dx fs, x = .ref a ∧ H1 a = some (.ins C dx fs) ∧ fs.lookup m = none ∧ t σ H1 fun vs H2 => sp (x :: vs) H2 Q E
def tN (C : Addr) (sp : Sp) (E : XK) (t : TA) : TE := fun σ H Q => t σ H fun vs H1 => ∀ x dx, H1 x = none → H1 dx = none → dx ≠ x → sp (.ref x :: vs) (upd (upd H1 dx (.own x)) x (.ins C dx [])) (fun v H2 => v = .non ∧ Q (.ref x) H2) E
/-- a def of the module -/
structure DefX (P : Program) (w : World) (K : PySem.W.Frag) (mg : Str → Option Value) (base : Heap) (CX : CXT) (x : Str) (k : Nat) (ps : List Str) (sp : Sp) : Prop where
  ex : ∃ (f : Addr) (fd : FuncData), FnOk P w K mg base CX k f fd ps sp ∧ mg x = some (.ref f) ∧ PySem.W.keepIn K (.ref f) = true ∧ Binds K fd ps []
/-- a method of the class at C -/
structure MethX (P : Program) (w : World) (K : PySem.W.Frag) (mg : Str → Option Value) (base : Heap) (CX : CXT) (C : Addr) (m : Str) (k : Nat) (ps : List Str) (sp : Sp) : Prop where
  ex : ∃ (f : Addr) (fd : FuncData), FnOk P w K mg base CX k f fd ps sp ∧ Cls K C ∧ Meth K C m f ∧ Binds K fd ps []
/-- the class named x, at C, by its __init__ -/
structure InitX (P : Program) (w : World) (K : PySem.W.Frag) (mg : Str → Option Value) (base : Heap) (CX : CXT) (x : Str) (C : Addr) (k : Nat) (ps : List Str) (sp : Sp) : Prop where
  ex : ∃ (f : Addr) (fd : FuncData), FnOk P w K mg base CX k f fd ps sp ∧ Mk K C f ∧ mg x = some (.ref C) ∧ Binds K fd ps []
section
variable {X : Cx} {CX : CXT} {x m : Str} {k k' : Nat} {ps : List Str} {sp : Sp} {E : XK} {C : Addr} {v : V} {p pos apos : Pos} {e o : Expr} {es : List Expr} {t : TA} {to : TE}
theorem pe_gv (g : GlobV X.mg x v) (hg : Gl X x := by rfl) (hdb : (x == ("__debug__" : Str)) = false := by decide) : PE X (.Name x pos) (tC v) := by
  obtain ⟨u, h, r⟩ := g
  exact pe_glob hg h r hdb
theorem pe_f (D : DefX X.prog X.w X.K X.mg X.base CX x k ps sp) (hr : Room k' X.A) (hk : k ≤ k') (hx : Passes CX X E) (ha : PA X (e :: es) t) (hg : Gl X x := by rfl) (hdb : (x == ("__debug__" : Str)) = false := by decide)
    (he : starEach (e :: es) X.env = (false, eval e X.env) :: starEach es X.env := by rfl) (hpl : (backTo pos (starEach es X.env)).any (·.1) = false := by rfl) : PE X (.Call (.Name x p) (e :: es) [] pos) (tF sp E t) := by
  obtain ⟨f, fd, F, h1, h2, b⟩ := D.ex
  have z := pe_call (p := p) (pos := pos) F (hr.mono hk) hg h1 h2 b .nil hx ha hdb he hpl
  have ez : tCall sp [] E t = tF sp E t := by
    funext σ H Q
    unfold tCall tF
    simp only [List.append_nil]
  rw [← ez]; exact z
theorem pe_f0 (D : DefX X.prog X.w X.K X.mg X.base CX x k ps sp) (hr : Room k' X.A) (hk : k ≤ k') (hx : Passes CX X E) (hg : Gl X x := by rfl) (hdb : (x == ("__debug__" : Str)) = false := by decide) : PE X (.Call (.Name x p) [] [] pos) (tF sp E tNil) := by
  obtain ⟨f, fd, F, h1, h2, b⟩ := D.ex
  have z := pe_call0 (p := p) (pos := pos) F (hr.mono hk) hg h1 h2 b .nil hx hdb
  have ez : tCall sp [] E tNil = tF sp E tNil := by
    funext σ H Q
    unfold tCall tF
    simp only [List.append_nil]
  rw [← ez]; exact z
theorem pe_o {pl : Sem Bool} (D : MethX X.prog X.w X.K X.mg X.base CX C m k ps sp) (hr : Room k' X.A) (hk : k ≤ k') (hx : Passes CX X E) (ho : PE X o to) (ha : PA X (e :: es) t)
    (hst : starEach (e :: es) X.env = (false, eval e X.env) :: starEach es X.env := by rfl) (hpl : (backTo pos (starEach es X.env)).any (·.1) = false := by rfl)
    (ht : eval (.Call (.Attribute o m apos) (e :: es) [] pos) X.env = (do
      let ov ← eval o X.env
      standAt apos.atName
      let (f, first) ← holding [ov] (getMethod ov m pl)
      callWith pos f first (backTo pos (starEach (e :: es) X.env)) (backToKw pos (keywordEach [] X.env))) := by rfl) : PE X (.Call (.Attribute o m apos) (e :: es) [] pos) (tO C m sp E to t) := by
  obtain ⟨f, fd, F, c, hm, b⟩ := D.ex
  have z := pe_meth (apos := apos) (pos := pos) (e := e) (es := es) ho c hm F (hr.mono hk) b .nil hx ha hst hpl ht
  have ez : tMeth C m sp [] E to t = tO C m sp E to t := by
    funext σ H Q
    unfold tMeth tO
    simp only [List.append_nil]
  rw [← ez]
  exact z
theorem pe_o0 {pl : Sem Bool} (D : MethX X.prog X.w X.K X.mg X.base CX C m k ps sp) (hr : Room k' X.A) (hk : k ≤ k') (hx : Passes CX X E) (ho : PE X o to)
    (ht : eval (.Call (.Attribute o m apos) [] [] pos) X.env = (do
      let ov ← eval o X.env
      standAt apos.atName
      let (f, first) ← holding [ov] (getMethod ov m pl)
      callWith pos f first (backTo pos (starEach [] X.env)) (backToKw pos (keywordEach [] X.env))) := by rfl) : PE X (.Call (.Attribute o m apos) [] [] pos) (tO C m sp E to tNil) := by
  obtain ⟨f, fd, F, c, hm, b⟩ := D.ex
  have z := pe_meth0 (apos := apos) (pos := pos) ho c hm F (hr.mono hk) b .nil hx ht
  have ez : tMeth C m sp [] E to tNil = tO C m sp E to tNil := by
    funext σ H Q
    unfold tMeth tO
    simp only [List.append_nil]
  rw [← ez]
  exact z
theorem pe_n (D : InitX X.prog X.w X.K X.mg X.base CX x C k ps sp) (hr : Room k' X.A) (hk : k + 1 ≤ k') (hx : Passes CX X E) (ha : PA X (e :: es) t) (hg : Gl X x := by rfl) (hdb : (x == ("__debug__" : Str)) = false := by decide)
    (he : starEach (e :: es) X.env = (false, eval e X.env) :: starEach es X.env := by rfl) (hpl : (backTo pos (starEach es X.env)).any (·.1) = false := by rfl) : PE X (.Call (.Name x p) (e :: es) [] pos) (tN C sp E t) := by
  obtain ⟨f, fd, F, M, h1, b⟩ := D.ex
  have z := pe_make (p := p) (pos := pos) M F (hr.mono hk) hg h1 b .nil hx ha hdb he hpl
  have ez : tMake C sp [] E t = tN C sp E t := by
    funext σ H Q
    unfold tMake tN
    simp only [List.append_nil]
  rw [← ez]; exact z
theorem pe_n0 (D : InitX X.prog X.w X.K X.mg X.base CX x C k ps sp) (hr : Room k' X.A) (hk : k + 1 ≤ k') (hx : Passes CX X E) (hg : Gl X x := by rfl) (hdb : (x == ("__debug__" : Str)) = false := by decide) : PE X (.Call (.Name x p) [] [] pos) (tN C sp E tNil) := by
  obtain ⟨f, fd, F, M, h1, b⟩ := D.ex
  have z := pe_make0 (p := p) (pos := pos) M F (hr.mono hk) hg h1 b .nil hx hdb
  have ez : tMake C sp [] E tNil = tN C sp E tNil := by
    funext σ H Q
    unfold tMake tN
    simp only [List.append_nil]
  rw [← ez]; exact z
end
end Ss
/-! ## Part 4: texts' methods, isinstance, raise; what is asked of a reading -/
namespace Ss
open PySem PySem.Spec PyProof.Rows L2

def u_split : V → List V → Hp → VK → Prop := fun x xs H Q => ∃ a b, x = .str a ∧ xs = [.str b] ∧ (b.length == 0) = false ∧ a.length + 2 ≤ sizeLine ∧ rNewStrs (Txt.split a b) H Q
def u_count : V → List V → Hp → VK → Prop := fun x xs H Q => ∃ a b, x = .str a ∧ xs = [.str b] ∧ Q (.int (Txt.count a b)) H
def u_find : V → List V → Hp → VK → Prop := fun x xs H Q => ∃ a b, x = .str a ∧ xs = [.str b] ∧ Q (.int (Txt.find a b)) H
def u_join (K : PySem.W.Frag) : V → List V → Hp → VK → Prop := fun x xs H Q => ∃ a p, ∃ ys : List Str, x = .str a ∧ xs = [.ref p] ∧ (SqL K H p (ys.map V.str) ∨ SqT K H p (ys.map V.str)) ∧ (ys.map (·.length)).sum + ys.length * a.length ≤ 16777216 ∧ Q (.str (Txt.join a ys)) H
def u_rstrip : V → List V → Hp → VK → Prop := fun x xs H Q => ∃ a b, x = .str a ∧ xs = [.str b] ∧ a.length ≤ sizeLine ∧ Q (.str (Txt.rstripChars a b)) H
def tIsTy (K : PySem.W.Frag) (ta : TE) (T : String) : TE := fun σ H Q => ta σ H fun x H1 => rIsi K [x, .ty T] H1 Q
theorem l_isTy {K : PySem.W.Frag} {x : V} {H : Hp} {Q : VK} {t T : String} {b : Bool} (ty : TyX K H x (.type t)) (h : kitB t T = some b) (q : Q (.bl b) H) : rIsi K [x, .ty T] H Q := ⟨x, .ty T, .type t, .type T, b, rfl, .ty T, ty, kit_ty h, q⟩
section
variable {X : Cx} {o e a : Expr} {to te ta : TE} {apos pos : Pos}
theorem pe_usplit (ho : PE X o to) (he : PE X e te) (hs : starEach [e] X.env = [(false, eval e X.env)] := by rfl) (hbase : attributeBase o "split" X.env (eval o X.env) = eval o X.env := by rfl) (hline : (apos.endLine == pos.line) = true := by rfl) :
    PE X (.Call (.Attribute o "split" apos) [e] [] pos) (tM1 u_split to te) := pe_split ho he hs hbase hline
theorem pe_ucount (ho : PE X o to) (he : PE X e te) (hs : starEach [e] X.env = [(false, eval e X.env)] := by rfl) (hbase : attributeBase o "count" X.env (eval o X.env) = eval o X.env := by rfl) (hline : (apos.endLine == pos.line) = true := by rfl) :
    PE X (.Call (.Attribute o "count" apos) [e] [] pos) (tM1 u_count to te) := pe_m1 F.slot_str_count F.type_str_count mt_count ho he hs hbase hline
theorem pe_ufind (ho : PE X o to) (he : PE X e te) (hs : starEach [e] X.env = [(false, eval e X.env)] := by rfl) (hbase : attributeBase o "find" X.env (eval o X.env) = eval o X.env := by rfl) (hline : (apos.endLine == pos.line) = true := by rfl) :
    PE X (.Call (.Attribute o "find" apos) [e] [] pos) (tM1 u_find to te) := pe_m1 F.slot_str_find F.type_str_find mt_find ho he hs hbase hline
theorem pe_ujoin (ho : PE X o to) (he : PE X e te) (hs : starEach [e] X.env = [(false, eval e X.env)] := by rfl) (hbase : attributeBase o "join" X.env (eval o X.env) = eval o X.env := by rfl) (hline : (apos.endLine == pos.line) = true := by rfl) :
    PE X (.Call (.Attribute o "join" apos) [e] [] pos) (tM1 (u_join X.K) to te) := pe_join ho he hs hbase hline
theorem pe_sc {x y : Str} {j : Nat} (h : x = y) : PE X (.Constant (.str x) j pos) (tC (.str y)) := by subst h; exact pe_str
theorem pe_isTy {T : String} {p tp : Pos} (ha : PE X a ta) (hg : Gl X "isinstance") (hm : X.mg "isinstance" = none) {xT : Str} (gT : Gl X xT) (mT : X.mg xT = none) (vT : bootBuiltins xT = some (.type T))
    (he : starEach [a, .Name xT tp] X.env = (false, eval a X.env) :: starEach [.Name xT tp] X.env := by rfl) (hpl : (backTo pos (starEach [.Name xT tp] X.env)).any (·.1) = false := by rfl)
    (hn : xT ≠ "__name__" := by decide) (hdb : (xT == ("__debug__" : Str)) = false := by decide) : PE X (.Call (.Name "isinstance" p) [a, .Name xT tp] [] pos) (tIsTy X.K ta T) := by
  have z : PE X (.Name xT tp) (tC (.ty T)) := pe_bltn (u := .type T) gT mT vT rfl hn hdb
  exact pe_callB (p := p) (pos := pos) (call_isi (X := X)) hg hm (by decide +kernel) (pa_cons ha (pa_cons z pa_nil) he) (by decide) (by decide) he hpl
theorem pe_replIx {y z y' z' : Str} {j k k0 : Nat} {i : Int} {c0 c1 p1 p2 : Pos} (ha : PE X a ta) (hy : y = y') (hz : z = z') (hyz : (y == z) = false)
    (hst : starEach [.Constant (.str y) j c0, .Constant (.str z) k c1] X.env = [(false, eval (.Constant (.str y) j c0) X.env), (false, eval (.Constant (.str z) k c1) X.env)] := by rfl)
    (hbase : attributeBase (.Subscript a (.Constant (.int i) k0 p1) p2) "replace" X.env (eval (.Subscript a (.Constant (.int i) k0 p1) p2) X.env) = eval (.Subscript a (.Constant (.int i) k0 p1) p2) X.env := by rfl) (hline : (apos.endLine == pos.line) = true := by rfl) :
    PE X (.Call (.Attribute (.Subscript a (.Constant (.int i) k0 p1) p2) "replace" apos) [.Constant (.str y) j c0, .Constant (.str z) k c1] [] pos) (CwR.tReplC (tOp (uIx X.K) ta (tC (.int i))) y' z') := by
  subst hy; subst hz
  refine ⟨fun pins s σ H Q I h => ?_⟩
  have hr : wpAny (model X.prog X.w) X.A (eval (.Subscript a (.Constant (.int i) k0 p1) p2) X.env) (fun v s1 => 1 ≤ s1.toks ∧ EP X pins σ (fun v H1 => ∃ x, v = .str x ∧ x.length + (x.length + 1) * z.length ≤ 16777216 ∧ Q (.str (Txt.replace x y z)) H1) v s1) X.xe s := by
    refine Subscript_ (thn (ha.run pins s σ H _ I h) fun v s1 ⟨x, H1, I1, r1, q1⟩ => ?_)
    refine wpAny_Constant_int ?_
    have w := iIx (X := X) a (.Constant (.int i) k0 p1) pins { s1 with toks := s1.toks + 1 } σ H1 x (.int i) v (.int i s1.toks) _ (I1.tok _) r1 ⟨_, rfl⟩ q1 rfl
    refine wpAny_mono (wpAny_toks_of (n := s1.toks + 1) (Nat.le_refl _) w) (fun v s2 q => ⟨by have := q.1; omega, q.2⟩) fun e s2 q => q.2
  refine PySem.Call_method2 hbase hst hline (wpAny_mono hr (fun v s1 q => ?_) fun _ _ z => z)
  obtain ⟨hk, v', H1, I1, r1, x, e1, hb, q⟩ := q
  subst e1
  obtain ⟨tx, e2⟩ := r1
  subst e2
  refine ⟨"str", _, PySem.F.plainAttrs_str, PySem.F.slot_str_replace, PySem.F.type_str_replace, typeIs_str _ _ _, (fun _ e => nomatch e), Calls.callWith_builtin rfl (Calls.evalArgs_plain (Calls.spliced_cons ?_))⟩
  refine Calls.Constant_str (Calls.spliced_cons (Calls.Constant_str (Calls.spliced_nil ?_)))
  exact PySem.SC.replace (by show s1.toks ≠ 0; omega) (by show s1.toks + 1 ≠ 0; omega) (by show s1.toks ≠ s1.toks + 1; omega) hyz hb fun t' k => ⟨.str (Txt.replace x y z), H1, I1.tok k, ⟨t', rfl⟩, q⟩
end

/-! ### raise X('..') -/
/-- what the top has made of an own error class without __init__ -/
structure ErrX (K : PySem.W.Frag) (mg : Str → Option Value) (x : Str) (C : Addr) : Prop where
  ex : PySem.W.excIn K C [.type "ValueError", .type "Exception", .type "BaseException", .type "object"] "ValueError.__new__" = true
  g : mg x = some (.ref C)
  kp : PySem.W.keepIn K (.ref C) = true
  sub : PySem.W.subIn K (.ref C) (.type "BaseException") = some true
  ty : PySem.W.typeIn K (.ref C) = some (.type "type")
def tRz (C : Addr) (E : XK) : TS := fun _ _ H => E (.ref C) none H
theorem ps_rz {X : Cx} {x : Str} {m : Str} {j : Nat} {p p2 pos pos' : Pos} {C : Addr} {E : XK} (e : ErrX X.K X.mg x C) (tk : Takes X (fun cls d _ H => E cls d H)) (hc : X.calm = true := by rfl) (hg : Gl X x := by rfl) (hdb : (x == ("__debug__" : Str)) = false := by decide) :
    PS X (.Raise (some (.Call (.Name x p) [.Constant (.str m) j p2] [] pos)) none pos') (tRz C E) := L2.ps_raise hc tk (L2.pmk_own PySem.F.excBase_ValueError e.ex e.g e.kp (raises_own e.sub e.ty) hg hdb)
theorem passE {P : Program} {w : World} {K : PySem.W.Frag} {mg : Str → Option Value} {base : Heap} {N : List Str} {qual : Str} {scope : Scope} {f : Addr} {cd : Value} {A : Around} {outer : List Env} {s : Shared} {H : Hp} {E : XK} :
    Passes (L2.CX P w) (cxOf (L2.CX P w) P w K mg base N qual scope f cd A outer s H E) E := passes_call (takes_of rfl rfl rfl rfl) (fun _ _ _ _ h => h)

/-- what is asked of a reading t of a def with the names N: it keeps the promise sp -/
def RD (N : List Str) (t : XK → TS) (sp : Sp) : Prop := ∀ vs H Q E, sp vs H Q E → t E { nx := fun _ H' => Q .non H', rt := Q } (start N vs) H
/-- where the classes stand -/
structure Ctx where
  K : PySem.W.Frag
  cScreenError : Addr
  cBadText : Addr
  cBadSize : Addr
  cBadPlace : Addr
  cBadPage : Addr
  cBadPane : Addr
  cBadTick : Addr
  cNothing : Addr
  cReader : Addr
  cRow : Addr
  cScreen : Addr
  cLine : Addr
  cPanes : Addr
  cTape : Addr
  aPLAIN : Addr
  aBLANK : Addr
  aUPRIGHT : Addr
  aLEVEL : Addr
  tabs : List (Addr × Str) := []
end Ss
/-! ## Part 5: a reading, step by step: one lemma a construct -/
namespace Ss
open PySem PySem.Spec PyProof.Rows L2
def aTup (xs : List V) (H : Hp) (Q : VK) : Prop := xs.length ≤ sizeLine ∧ ∀ p, H p = none → Q (.ref p) (upd H p (.tup xs))
def aLst (xs : List V) (H : Hp) (Q : VK) : Prop := xs.length ≤ sizeLine ∧ ∀ p, H p = none → Q (.ref p) (upd H p (.lst xs))
def aFld (K : PySem.W.Frag) (x : V) (f : Str) (H : Hp) (Q : VK) : Prop := ∃ a C dx fs v, x = .ref a ∧ H a = some (.ins C dx fs) ∧ Cls K C ∧ NoAttr K C f ∧ fs.lookup f = some v ∧ Q v H
def aPut (K : PySem.W.Frag) (x y : V) (f : Str) (H : Hp) (Q : Hp → Prop) : Prop := ∃ a C dx fs, x = .ref a ∧ H a = some (.ins C dx fs) ∧ Cls K C ∧ NoAttr K C f ∧ fs.length < 1000 ∧ Q (upd H a (.ins C dx (putF f y fs)))
def aO (C : Addr) (m : Str) (x : V) (H : Hp) (P : Prop) : Prop := ∃ a dx fs, x = .ref a ∧ H a = some (.ins C dx fs) ∧ fs.lookup m = none ∧ P
def aN (C : Addr) (sp : Sp) (E : XK) (vs : List V) (H : Hp) (Q : VK) : Prop := ∀ x dx, H x = none → H dx = none → dx ≠ x → sp (.ref x :: vs) (upd (upd H dx (.own x)) x (.ins C dx [])) (fun v H2 => v = .non ∧ Q (.ref x) H2) E
theorem sz {n : Nat} (h : Nat.ble n 1000 = true) : n ≤ sizeLine := Nat.le_trans (Nat.le_of_ble_eq_true h) (by decide)
theorem szl {n : Nat} (h : n ≤ 100000) : n ≤ sizeLine := Nat.le_trans h (by decide)
theorem szlt {n : Nat} (h : n < 100000) : n < sizeLine := Nat.lt_of_lt_of_le h (by decide)
section
variable {K : PySem.W.Frag} {σ : L2.St} {H F : Hp} {L : List (Addr × HO)} {Q : VK} {QB : Bool → Hp → Prop} {QA : List V → Hp → Prop} {QO : Option Int → Hp → Prop} {nx bk ct : L2.St → Hp → Prop} {rt : VK} {t u : TS} {te ta tb tv to tcE : TE} {tc tA tB' : TT} {g : TG} {tr : TA} {r r' : R2} {v w x y : V} {i j l : Nat} {b : Bool} {P : Prop}
-- statements
theorem x_seq (h : t ⟨u ⟨nx, rt, bk, ct⟩, rt, bk, ct⟩ σ H) : tSeq t u ⟨nx, rt, bk, ct⟩ σ H := h
theorem x_next (h : nx σ H) : tNext ⟨nx, rt, bk, ct⟩ σ H := h
theorem x_asg (h : te σ H fun x H1 => g x σ H1 nx) : tAsg te g ⟨nx, rt, bk, ct⟩ σ H := h
theorem x_drop (h : te σ H fun _ H1 => nx σ H1) : tDrop te ⟨nx, rt, bk, ct⟩ σ H := h
theorem x_ret (h : te σ H rt) : tRet te ⟨nx, rt, bk, ct⟩ σ H := h
theorem x_retN (h : rt .non H) : tRetN ⟨nx, rt, bk, ct⟩ σ H := h
theorem x_brk (h : bk σ H) : tBreak ⟨nx, rt, bk, ct⟩ σ H := h
theorem x_cont (h : ct σ H) : tCont ⟨nx, rt, bk, ct⟩ σ H := h
theorem x_ifs (h : tc σ H fun b H1 => if b = true then t ⟨nx, rt, bk, ct⟩ σ H1 else u ⟨nx, rt, bk, ct⟩ σ H1) : tIfS tc t u ⟨nx, rt, bk, ct⟩ σ H := h
theorem x_par (h : tr σ H fun vs H1 => ∃ v w, vs = [v, w] ∧ nx ((σ.set i (some v)).set j (some w)) H1) : tPar i j tr ⟨nx, rt, bk, ct⟩ σ H := h
theorem x_par' (h : P) : ∃ v' w', [v, w] = [v', w'] ∧ P := ⟨v, w, rfl, h⟩
theorem x_sfld {f : Str} (h : tv σ H fun y H1 => ta σ H1 fun x H2 => aPut K x y f H2 (nx σ)) : sFld K ta tv f ⟨nx, rt, bk, ct⟩ σ H := h
theorem x_put {a C dx : Addr} {f : Str} {fs fs' : List (Str × V)} {QH : Hp → Prop} (h : H a = some (.ins C dx fs)) (c : Cls K C) (n : NoAttr K C f) (hl : fs.length < 1000) (hp : putF f y fs = fs') (q : QH (upd H a (.ins C dx fs'))) : aPut K (.ref a) y f H QH :=
  ⟨a, C, dx, fs, rfl, h, c, n, hl, by rw [hp]; exact q⟩
theorem x_rz {C : Addr} {E : XK} (h : E (.ref C) none H) : tRz C E ⟨nx, rt, bk, ct⟩ σ H := h
-- targets
theorem x_name (h : nx (σ.set i (some v)) H) : gName i v σ H nx := h
theorem x_gtup {a : Addr} {xs : List V} {n : Nat} {ts : TGs} (h : SqT K H a xs) (e : xs.length = n) (q : ts xs σ H nx) : gTup K n ts (.ref a) σ H nx := ⟨a, xs, rfl, h, e, q⟩
theorem x_gcons {ts : TGs} {vs : List V} (h : g v σ H fun σ' H' => ts vs σ' H' nx) : gCons g ts (v :: vs) σ H nx := ⟨v, vs, rfl, h⟩
theorem x_gnil (h : nx σ H) : gNil [] σ H nx := ⟨rfl, h⟩
-- expressions
theorem x_var (h : σ[i]? = some (some v)) (q : Q v H) : tVar i σ H Q := ⟨v, h, q⟩
theorem x_c (h : Q v H) : tC v σ H Q := h
theorem x_op (h : ta σ H fun x H1 => tb σ H1 fun y H2 => r x y H2 Q) : tOp r ta tb σ H Q := h
theorem x_un {r : V → Hp → VK → Prop} (h : ta σ H fun x H1 => r x H1 Q) : tUn r ta σ H Q := h
theorem x_neg {n : Int} (h : Q (.int (-n)) H) : rU (fun i => .int (-i)) (.int n) H Q := ⟨_, rfl, h⟩
theorem x_nil (h : QA [] H) : tNil σ H QA := h
theorem x_cons (h : ta σ H fun x H1 => tr σ H1 fun xs H2 => QA (x :: xs) H2) : tCons ta tr σ H QA := h
theorem x_tup (h : tr σ H fun xs H1 => aTup xs H1 Q) : tTup tr σ H Q := h
theorem x_lst (h : tr σ H fun xs H1 => aLst xs H1 Q) : tLst tr σ H Q := h
theorem x_cb {r : List V → Hp → VK → Prop} (h : tr σ H fun vs H1 => r vs H1 Q) : tCB r tr σ H Q := h
theorem x_bm {T : String} {r : V → List V → Hp → VK → Prop} (h : to σ H fun x H1 => tyV K T x H1 ∧ tr σ H1 fun xs H2 => r x xs H2 Q) : tBM K T r to tr σ H Q := h
theorem x_bm0 {T : String} {r : V → List V → Hp → VK → Prop} (h : to σ H fun x H1 => tyV K T x H1 ∧ r x [] H1 Q) : tBM0 K T r to σ H Q := h
theorem x_m1 {r : V → List V → Hp → VK → Prop} (h : to σ H fun x H1 => (∃ a, x = .str a) ∧ te σ H1 fun y H2 => r x [y] H2 Q) : tM1 r to te σ H Q := h
theorem x_m0 {r : V → List V → Hp → VK → Prop} (h : to σ H fun x H1 => (∃ a, x = .str a) ∧ r x [] H1 Q) : tM0 r to σ H Q := h
theorem x_isstr {z : Str} (h : P) : (∃ a, V.str z = .str a) ∧ P := ⟨⟨_, rfl⟩, h⟩
theorem x_tystr {z : Str} (h : P) : tyV K "str" (.str z) H ∧ P := ⟨rfl, h⟩
theorem x_tylst {a : Addr} {xs : List V} (hs : SqL K H a xs) (h : P) : tyV K "list" (.ref a) H ∧ P := ⟨.inl ⟨rfl, _, hs⟩, h⟩
theorem x_sl {r : V → Option Int → Option Int → Hp → VK → Prop} {tl th : TO} (h : te σ H fun x H1 => tl σ H1 fun l H2 => th σ H2 fun u H3 => r x l u H3 Q) : tSl r te tl th σ H Q := h
theorem x_part (h : te σ H fun x H1 => ∃ i, x = .int i ∧ QO (some i) H1) : tPart te σ H QO := h
theorem x_part' {n : Int} {Pi : Int → Prop} (h : Pi n) : ∃ i, V.int n = .int i ∧ Pi i := ⟨_, rfl, h⟩
theorem x_nopart (h : QO none H) : tNoPart σ H QO := h
theorem x_fld {f : Str} (h : ta σ H fun x H1 => aFld K x f H1 Q) : tFld K ta f σ H Q := h
theorem x_get {a C dx : Addr} {f : Str} {fs : List (Str × V)} (h : H a = some (.ins C dx fs)) (c : Cls K C) (n : NoAttr K C f) (hl : fs.lookup f = some v) (q : Q v H) : aFld K (.ref a) f H Q := ⟨a, C, dx, fs, v, rfl, h, c, n, hl, q⟩
theorem x_f {sp : Sp} {E : XK} (h : tr σ H fun vs H1 => sp vs H1 Q E) : tF sp E tr σ H Q := h
theorem x_o {C : Addr} {m : Str} {sp : Sp} {E : XK} (h : ta σ H fun x H1 => aO C m x H1 (tr σ H1 fun vs H2 => sp (x :: vs) H2 Q E)) : tO C m sp E ta tr σ H Q := h
theorem x_ao {a C dx : Addr} {m : Str} {fs : List (Str × V)} (h : H a = some (.ins C dx fs)) (hl : fs.lookup m = none) (q : P) : aO C m (.ref a) H P := ⟨a, dx, fs, rfl, h, hl, q⟩
theorem x_n {C : Addr} {sp : Sp} {E : XK} (h : tr σ H fun vs H1 => aN C sp E vs H1 Q) : tN C sp E tr σ H Q := h
theorem x_an {C : Addr} {sp : Sp} {E : XK} {vs : List V} (W : Hold F L H) (h : ∀ (x dx : Addr) (H1 : Hp), Hold F ((x, .ins C dx []) :: L) H1 → sp (.ref x :: vs) H1 (fun v H2 => v = .non ∧ Q (.ref x) H2) E) : aN C sp E vs H Q := fun x dx n1 n2 ne => h x dx _ (W.inst n1 n2 ne)
theorem x_if (h : tc σ H fun c H1 => if c = true then ta σ H1 Q else tb σ H1 Q) : tIf tc ta tb σ H Q := h
theorem x_isty {T : String} (h : ta σ H fun x H1 => rIsi K [x, .ty T] H1 Q) : tIsTy K ta T σ H Q := h
theorem x_chain (h : ta σ H fun x H1 => tb σ H1 fun y H2 => r x y H2 fun z H3 => ∃ k, z = .bl k ∧ if k = true then tcE σ H3 fun w' H4 => r' y w' H4 Q else Q (.bl false) H3) : tChain r r' ta tb tcE σ H Q := h
theorem x_andV (h : ta σ H fun x H1 => ∃ c, x = .bl c ∧ if c = true then tb σ H1 Q else Q (.bl false) H1) : tAndV ta tb σ H Q := h
theorem x_orV (h : ta σ H fun x H1 => ∃ c, x = .bl c ∧ if c = true then Q (.bl true) H1 else tb σ H1 Q) : tOrV ta tb σ H Q := h
theorem x_notV (h : ta σ H fun x H1 => ∃ c, x = .bl c ∧ Q (.bl (!c)) H1) : tNotV ta σ H Q := h
-- tests
theorem x_test (h : te σ H fun x H' => ∃ k, x = .bl k ∧ QB k H') : tTest te σ H QB := h
theorem x_B (h : te σ H fun x H1 => ∃ c, x = .bl c ∧ QB c H1) : tB te σ H QB := h
theorem x_bl {Qb : Bool → Prop} (h : Qb b) : ∃ k, V.bl b = .bl k ∧ Qb k := ⟨b, rfl, h⟩
theorem x_and (h : tA σ H fun c H1 => if c = true then tB' σ H1 QB else QB false H1) : tAnd tA tB' σ H QB := h
theorem x_or (h : tA σ H fun c H1 => if c = true then QB true H1 else tB' σ H1 QB) : tOr tA tB' σ H QB := h
theorem x_not (h : tA σ H fun c H1 => QB (!c) H1) : tNot tA σ H QB := h
theorem x_tru (h : ta σ H fun x H' => ∃ k, TruV K x H' k ∧ QB k H') : tTru K ta σ H QB := h
theorem x_yes (h : QB true H) : tYes σ H QB := h
-- new objects
theorem n_tupF {xs : List V} (W : Hold F L H) (hl : xs.length ≤ sizeLine) (k : ∀ (p : Addr) (F' H' : Hp), Same F F' → F' p = some (.tup xs) → Hold F' L H' → Q (.ref p) H') : aTup xs H Q :=
  ⟨hl, newF W fun p F' H' s h W' _ => k p F' H' s h W'⟩
theorem n_lstF {xs : List V} (W : Hold F L H) (hl : xs.length ≤ sizeLine) (k : ∀ (p : Addr) (F' H' : Hp), Same F F' → F' p = some (.lst xs) → Hold F' L H' → Q (.ref p) H') : aLst xs H Q :=
  ⟨hl, newF W fun p F' H' s h W' _ => k p F' H' s h W'⟩
theorem n_lstL {xs : List V} (W : Hold F L H) (hl : xs.length ≤ sizeLine) (k : ∀ (p : Addr) (H' : Hp), Hold F ((p, .lst xs) :: L) H' → Q (.ref p) H') : aLst xs H Q := ⟨hl, newL W k⟩
-- ways
theorem w2 {A B : Prop} (h1 : b = true → A) (h2 : b = false → B) : if b = true then A else B := by
  cases b with
  | true => rw [if_pos rfl]; exact h1 rfl
  | false => rw [if_neg Bool.false_ne_true]; exact h2 rfl
theorem wT {A B : Prop} (hb : b = true) (h : A) : if b = true then A else B := by rw [if_pos hb]; exact h
theorem wF {A B : Prop} (hb : b = false) (h : B) : if b = true then A else B := by rw [hb, if_neg Bool.false_ne_true]; exact h
theorem wD {A B : Prop} {c : Prop} [Decidable c] (h1 : c → A) (h2 : ¬ c → B) : if decide c = true then A else B := by
  by_cases h : c
  · rw [if_pos (decide_eq_true h)]; exact h1 h
  · rw [if_neg (by simpa using h)]; exact h2 h
theorem wN {A B : Prop} {c : Prop} [Decidable c] (h1 : ¬ c → A) (h2 : c → B) : if (!decide c) = true then A else B := by
  by_cases h : c
  · rw [decide_eq_true h, if_neg (by decide)]; exact h2 h
  · rw [decide_eq_false h, if_pos (by decide)]; exact h1 h
end
end Ss
/-! ## Part 6: texts by their codes; a class's fields -/
namespace Ss
open PySem PySem.Spec PyProof.Rows L2
/-- the text of these codes -/
abbrev T (l : List Nat) : Str := ⟨l.toArray⟩
theorem T_inj {l m : List Nat} : T l = T m ↔ l = m := ⟨fun h => by injection h with h; simpa using congrArg Array.toList h, fun h => by rw [h]⟩
theorem T_eq (l m : List Nat) : decide (V.str (T l) = V.str (T m)) = decide (l = m) := by
  by_cases h : l = m
  · subst h; simp
  · have : ¬ V.str (T l) = V.str (T m) := fun e => h (T_inj.mp (V.str.inj e))
    rw [decide_eq_false h, decide_eq_false this]
theorem T_len (l : List Nat) : (T l).length = l.length := by simp [Str.length]
theorem T_list (l : List Nat) : (T l).cps.toList = l := by simp
theorem T_app (l m : List Nat) : T l ++ T m = T (l ++ m) := by
  show Str.mk _ = Str.mk _
  congr 1
  simp
theorem Str_T (s : Str) : s = T s.cps.toList := by cases s; simp
end Ss
/-! ## Part 7: loops and comprehensions -/
namespace Ss
open PySem PySem.Spec PyProof.Rows L2
/-- what an iterator walks, wherever F stands: n items, and it changes nothing -/
structure ItOk (J : It) (F : Hp) (n : Nat) (item : Nat → V) : Prop where
  go : ∀ i H, Gr F H → i < n → J.go i H
  stop : ∀ H, Gr F H → J.stop n H
  yld : ∀ i H x H', Gr F H → i < n → J.yld i H x H' → H' = H ∧ x = item i
section
variable {K : PySem.W.Frag} {F : Hp} {a : Addr} {xs : List V} {n : Nat} {lo : Int} {item : Nat → V} {J : It}
theorem ItOk.mono {F' : Hp} (o : ItOk J F n item) (g : Gr F F') : ItOk J F' n item := ⟨fun i H h => o.go i H (g.trans h), fun H h => o.stop H (g.trans h), fun i H x H' h => o.yld i H x H' (g.trans h)⟩
theorem ItOk.list (h : SqL K F a xs) : ItOk (Itl K a) F xs.length (fun i => xs.getD i .non) where
  go := fun i H g hi => ⟨xs, xs[i], g.sqL h, by simp [hi]⟩
  stop := fun H g => ⟨xs, g.sqL h, Nat.le_refl _⟩
  yld := fun i H x H' g hi y => by
    obtain ⟨e, y⟩ := y
    refine ⟨e, ?_⟩
    have z := y xs (g.sqL h)
    rw [List.getD_eq_getElem?_getD, z]; rfl
theorem ItOk.tup (h : SqT K F a xs) : ItOk (Itt K a) F xs.length (fun i => xs.getD i .non) where
  go := fun i H g hi => ⟨xs, xs[i], g.sqT h, by simp [hi]⟩
  stop := fun H g => ⟨xs, g.sqT h, Nat.le_refl _⟩
  yld := fun i H x H' g hi y => by
    obtain ⟨e, y⟩ := y
    refine ⟨e, ?_⟩
    have z := y xs (g.sqT h)
    rw [List.getD_eq_getElem?_getD, z]; rfl
theorem ItOk.rng : ItOk (Itr lo n) F n (fun i => .int (lo + i)) := ⟨fun _ _ _ h => h, fun _ _ => Nat.le_refl _, fun _ _ _ _ _ _ y => y⟩
theorem ItOk.str (l : List Nat) : ItOk (Its (T l)) F l.length (fun i => .str (T [l.getD i 0])) where
  go := fun i H _ h => by show i < l.toArray.size; rw [List.size_toArray]; exact h
  stop := fun H _ => by show l.toArray.size ≤ l.length; rw [List.size_toArray]; exact Nat.le_refl _
  yld := fun i H x H' _ hi y => by
    obtain ⟨e, c, hc, rfl⟩ := y
    refine ⟨e, ?_⟩
    have z : l[i]? = some c := by simpa using hc
    rw [List.getD_eq_getElem?_getD, z]; rfl
end
/-- the loop behind what it walks -/
def aFor (J : It) (g : TG) (tb : TS) (D : Ends) (σ : L2.St) (H1 : Hp) : Prop := ∃ W : Nat → Nat → L2.St → Hp → Prop, (∃ m, W 0 m σ H1) ∧ ∀ i m σ H, W i m σ H →
  (J.stop i H ∧ D.nx σ H) ∨ (J.go i H ∧ ∃ N : L2.St → Hp → Prop, (∀ σ' H', N σ' H' → ∃ m', m' < m ∧ W (i + 1) m' σ' H') ∧ ∀ x H', J.yld i H x H' → g x σ H' fun σ2 H2 => tb { D with nx := N, ct := N, bk := D.nx } σ2 H2)
def aLc (J : It) (g : TG) (tt : TT) (te : TE) (vs : List Nat) (σ : L2.St) (H1 : Hp) (Q : VK) : Prop := ∀ D, H1 D = none → ∃ W : Nat → Nat → Hp → Prop, (∃ m, W 0 m (upd H1 D (.lst []))) ∧ ∀ i m H, W i m H →
  (J.stop i H ∧ Q (.ref D) H) ∨ (J.go i H ∧ ∃ Nx : Hp → Prop, (∀ H', Nx H' → ∃ m', m' < m ∧ W (i + 1) m' H') ∧ ∀ x H', J.yld i H x H' → g x (wipe σ vs) H' fun σ2 H2 => wipe σ2 vs = wipe σ vs ∧ tt σ2 H2 fun b H3 =>
    if b = true then te σ2 H3 fun y H4 => ∃ acc, H4 D = some (.lst acc) ∧ acc.length < sizeLine ∧ Nx (upd H4 D (.lst (acc ++ [y]))) else Nx H3)
section
variable {K : PySem.W.Frag} {σ : L2.St} {H F : Hp} {L : List (Addr × HO)} {Q : VK} {QI : It → Hp → Prop} {nx bk ct : L2.St → Hp → Prop} {rt : VK} {tb t : TS} {te tl : TE} {tt tc : TT} {g : TG} {tr : TA} {wi : TI} {J : It} {n : Nat} {item : Nat → V} {vs : List Nat}
theorem x_for (h : wi σ H fun J H1 => aFor J g tb ⟨nx, rt, bk, ct⟩ σ H1) : tFor wi g tb ⟨nx, rt, bk, ct⟩ σ H := h
theorem x_lc (h : wi σ H fun J H1 => aLc J g tt te vs σ H1 Q) : tLc wi g tt te vs σ H Q := h
theorem x_ilist (h : tl σ H fun x H1 => ∃ a, x = .ref a ∧ (∃ xs, SqL K H1 a xs) ∧ QI (Itl K a) H1) : iList K tl σ H QI := h
theorem x_ilist' {a : Addr} {xs : List V} {Pa : Addr → Prop} (hs : SqL K H a xs) (h : Pa a) : ∃ a', V.ref a = .ref a' ∧ (∃ xs, SqL K H a' xs) ∧ Pa a' := ⟨a, rfl, ⟨xs, hs⟩, h⟩
theorem x_itup (h : tl σ H fun x H1 => ∃ a, x = .ref a ∧ (∃ xs, SqT K H1 a xs) ∧ QI (Itt K a) H1) : iTup K tl σ H QI := h
theorem x_itup' {a : Addr} {xs : List V} {Pa : Addr → Prop} (hs : SqT K H a xs) (h : Pa a) : ∃ a', V.ref a = .ref a' ∧ (∃ xs, SqT K H a' xs) ∧ Pa a' := ⟨a, rfl, ⟨xs, hs⟩, h⟩
theorem x_istr (h : te σ H fun v H1 => ∃ x, v = .str x ∧ QI (Its x) H1) : iStr te σ H QI := h
theorem x_istr' {z : Str} {Pz : Str → Prop} (h : Pz z) : ∃ x, V.str z = .str x ∧ Pz x := ⟨z, rfl, h⟩
theorem x_irng1 (h : tr σ H fun vs H1 => ∃ j : Int, vs = [.int j] ∧ -(2 ^ 62) ≤ j ∧ j < 2 ^ 62 ∧ QI (Itr 0 j.toNat) H1) : iRng1 tr σ H QI := h
theorem x_irng1' {j : Int} {Pj : Int → Prop} (h1 : -(2 ^ 62) ≤ j) (h2 : j < 2 ^ 62) (h : Pj j) : ∃ j' : Int, [V.int j] = [.int j'] ∧ -(2 ^ 62) ≤ j' ∧ j' < 2 ^ 62 ∧ Pj j' := ⟨j, rfl, h1, h2, h⟩
theorem x_irng2 (h : tr σ H fun vs H1 => ∃ i j : Int, vs = [.int i, .int j] ∧ (-(2 ^ 62) ≤ i ∧ i < 2 ^ 62 ∧ -(2 ^ 62) ≤ j ∧ j < 2 ^ 62) ∧ QI (Itr i (j - i).toNat) H1) : iRng2 tr σ H QI := h
theorem x_irng2' {i j : Int} {Pj : Int → Int → Prop} (hb : -(2 ^ 62) ≤ i ∧ i < 2 ^ 62 ∧ -(2 ^ 62) ≤ j ∧ j < 2 ^ 62) (h : Pj i j) : ∃ i' j' : Int, [V.int i, V.int j] = [.int i', .int j'] ∧ (-(2 ^ 62) ≤ i' ∧ i' < 2 ^ 62 ∧ -(2 ^ 62) ≤ j' ∧ j' < 2 ^ 62) ∧ Pj i' j' := ⟨i, j, rfl, hb, h⟩
/-- THE LOOP: Pv between two turns -/
theorem x_forOk (ok : ItOk J F n item) (Pv : Nat → L2.St → Hp → Prop) (hg : ∀ i σ H, i ≤ n → Pv i σ H → Gr F H) (h0 : Pv 0 σ H)
    (hs : ∀ i σ H, i < n → Pv i σ H → g (item i) σ H fun σ2 H2 => tb ⟨Pv (i + 1), rt, nx, Pv (i + 1)⟩ σ2 H2) (hd : ∀ σ H, Pv n σ H → nx σ H) : aFor J g tb ⟨nx, rt, bk, ct⟩ σ H := by
  refine ⟨fun i m σ H => m = n - i ∧ i ≤ n ∧ Pv i σ H, ⟨n, by simp, Nat.zero_le _, h0⟩, ?_⟩
  rintro i m σ H ⟨rfl, hi, p⟩
  have q := hg i σ H hi p
  by_cases hlt : i < n
  · refine .inr ⟨ok.go i H q hlt, Pv (i + 1), fun σ' H' p' => ⟨n - (i + 1), by omega, rfl, hlt, p'⟩, fun x H' y => ?_⟩
    obtain ⟨rfl, rfl⟩ := ok.yld i H x H' q hlt y
    exact hs i σ _ hlt p
  · have e : i = n := by omega
    subst e
    exact .inl ⟨ok.stop H q, hd σ H p⟩
/-- A COMPREHENSION without a test: its i-th item has val i -/
theorem x_lcOk (ok : ItOk J F n item) (W : Hold F L H) (hn : n ≤ 100000) (val : Nat → V → Hp → Prop) (mono : ∀ i v F F', Gr F F' → val i v F → val i v F')
    (step : ∀ (d : Addr × HO) i F' H' (QQ : VK), i < n → Same F F' → Hold F' (L ++ [d]) H' → (∀ y F4 H4, Same F' F4 → Hold F4 (L ++ [d]) H4 → val i y F4 → QQ y H4) → g (item i) (wipe σ vs) H' fun σ2 H2 => wipe σ2 vs = wipe σ vs ∧ te σ2 H2 QQ)
    (gm : ∀ x σ H (Q Q' : L2.St → Hp → Prop), (∀ σ' H', Q σ' H' → Q' σ' H') → g x σ H Q → g x σ H Q')
    (done : ∀ (D : Addr) (ys : List V) (F' H' : Hp), Same F F' → ys.length = n → (∀ i, i < n → val i (ys.getD i .non) F') → Hold F' ((D, .lst ys) :: L) H' → Q (.ref D) H') : aLc J g tYes te vs σ H Q := by
  intro D hD
  refine ⟨fun i m H' => m = n - i ∧ i ≤ n ∧ ∃ ys F', Same F F' ∧ ys.length = i ∧ (∀ j, j < i → val j (ys.getD j .non) F') ∧ Hold F' ((D, .lst ys) :: L) H', ⟨n, by simp, Nat.zero_le _, [], F, Same.refl F, rfl, fun j h => absurd h (Nat.not_lt_zero _), W.make hD⟩, ?_⟩
  rintro i m H1 ⟨rfl, hi, ys, F1, s1, hl, hv, W1⟩
  have q : Gr F H1 := (Gr.of s1).trans W1.gr
  by_cases hlt : i < n
  · refine .inr ⟨ok.go i H1 q hlt, fun H' => ∃ ys F', Same F F' ∧ ys.length = i + 1 ∧ (∀ j, j < i + 1 → val j (ys.getD j .non) F') ∧ Hold F' ((D, .lst ys) :: L) H', fun H' p' => ⟨n - (i + 1), by omega, rfl, hlt, p'⟩, fun x H' y => ?_⟩
    obtain ⟨rfl, rfl⟩ := ok.yld i H1 x H' q hlt y
    have W2 : Hold F1 (L ++ [(D, .lst ys)]) H' := W1.perm (List.perm_append_singleton _ _).symm
    refine gm _ _ _ _ _ (fun σ2 H2 z => ⟨z.1, ?_⟩) (step (D, .lst ys) i F1 H' (fun y H4 => ∃ acc, H4 D = some (.lst acc) ∧ acc.length < sizeLine ∧ (∃ ys F', Same F F' ∧ ys.length = i + 1 ∧ (∀ j, j < i + 1 → val j (ys.getD j .non) F') ∧ Hold F' ((D, .lst ys) :: L) (upd H4 D (.lst (acc ++ [y]))))) hlt s1 W2 ?_)
    · exact x_yes (wT rfl z.2)
    · intro v F4 H4 s4 W4 hv4
      have W5 : Hold F4 ((D, .lst ys) :: L) H4 := W4.perm (List.perm_append_singleton _ _)
      refine ⟨ys, W5.get0, szlt (by omega), ys ++ [v], F4, fun a o e => s4 a o (s1 a o e), by rw [List.length_append, hl]; rfl, fun j hj => ?_, W5.put0⟩
      by_cases hji : j < i
      · have e : (ys ++ [v]).getD j .non = ys.getD j .non := by rw [List.getD_eq_getElem?_getD, List.getElem?_append_left (by omega), List.getD_eq_getElem?_getD]
        rw [e]
        exact mono j _ F1 F4 (Gr.of s4) (hv j hji)
      · have e : j = ys.length := by omega
        have e2 : (ys ++ [v]).getD j .non = v := by rw [e, List.getD_eq_getElem?_getD]; simp
        rw [e2, show j = i by omega]
        exact hv4
  · have e : i = n := by omega
    subst e
    exact .inl ⟨ok.stop H1 q, done D ys F1 H1 s1 hl hv W1⟩
theorem x_put0 {a C dx : Addr} {f : Str} {y : V} {fs fs' : List (Str × V)} {QH : Hp → Prop} (W : Hold F ((a, .ins C dx fs) :: L) H) (c : Cls K C) (m : NoAttr K C f) (hl : fs.length < 1000) (hp : putF f y fs = fs') (q : ∀ H', Hold F ((a, .ins C dx fs') :: L) H' → QH H') : aPut K (.ref a) y f H QH :=
  x_put W.get0 c m hl hp (q _ W.put0)
theorem x_putI {a C dx : Addr} {f : Str} {y : V} {fs fs' : List (Str × V)} {QH : Hp → Prop} (i : Nat) (W : Hold F L H) (hi : L[i]? = some (a, .ins C dx fs)) (c : Cls K C) (m : NoAttr K C f) (hl : fs.length < 1000) (hp : putF f y fs = fs') (q : ∀ H', Hold F (L.set i (a, .ins C dx fs')) H' → QH H') : aPut K (.ref a) y f H QH :=
  x_put (W.get i hi) c m hl hp (q _ (W.put i hi))
theorem wipe1 {σ : L2.St} {k : Nat} {x : Option V} : wipe (List.set (wipe σ [k]) k x) [k] = wipe σ [k] := by
  show ((((σ.set k none).set k x)).set k none) = σ.set k none
  rw [List.set_set, List.set_set]
theorem wipe2 {σ : L2.St} {j k : Nat} {x y : Option V} (h : j ≠ k) : wipe (List.set (List.set (wipe σ [j, k]) j x) k y) [j, k] = wipe σ [j, k] := by
  show (((((σ.set k none).set j none).set j x).set k y).set k none).set j none = (σ.set k none).set j none
  rw [List.set_set, List.set_set, List.set_comm _ _ h.symm, List.set_set, List.set_comm _ _ h, List.set_set]
theorem x_cut {u : TS} (Mid : L2.St → Hp → Prop) (h1 : t ⟨Mid, rt, bk, ct⟩ σ H) (h2 : ∀ σ' H', Mid σ' H' → u ⟨nx, rt, bk, ct⟩ σ' H') : C8.tCut t u ⟨nx, rt, bk, ct⟩ σ H := ⟨Mid, h1, h2⟩
theorem gm_name {i : Nat} : ∀ x σ H (Q Q' : L2.St → Hp → Prop), (∀ σ' H', Q σ' H' → Q' σ' H') → gName i x σ H Q → gName i x σ H Q' := fun _ _ _ _ _ h q => h _ _ q
/-- a while: W falls -/
theorem x_while (W : Nat → L2.St → Hp → Prop) (m0 : Nat) (h0 : W m0 σ H)
    (hs : ∀ m σ H, W m σ H → tc σ H fun b H1 => if b = true then ∃ N : L2.St → Hp → Prop, (∀ σ' H', N σ' H' → ∃ m', m' < m ∧ W m' σ' H') ∧ tb ⟨N, rt, nx, N⟩ σ H1 else nx σ H1) : tWhile tc tb ⟨nx, rt, bk, ct⟩ σ H := ⟨W, ⟨m0, h0⟩, hs⟩
theorem x_wN {W : Nat → L2.St → Hp → Prop} {m : Nat} (h : tb ⟨fun σ' H' => ∃ m', m' < m ∧ W m' σ' H', rt, nx, fun σ' H' => ∃ m', m' < m ∧ W m' σ' H'⟩ σ H) : ∃ N : L2.St → Hp → Prop, (∀ σ' H', N σ' H' → ∃ m', m' < m ∧ W m' σ' H') ∧ tb ⟨N, rt, nx, N⟩ σ H := ⟨_, fun _ _ z => z, h⟩
end
theorem str1 {n m : Nat} : V.str (T [n]) = V.str (T [m]) ↔ n = m := ⟨fun h => by have := T_inj.mp (V.str.inj h); simpa using this, fun h => by rw [h]⟩
theorem strT {l m : List Nat} : V.str (T l) = V.str (T m) ↔ l = m := ⟨fun h => T_inj.mp (V.str.inj h), fun h => by rw [h]⟩
theorem lt1 {n m : Nat} : decide (([n] : List Nat) < [m]) = decide (n < m) := by
  rw [Bool.eq_iff_iff, decide_eq_true_eq, decide_eq_true_eq, List.cons_lt_cons_iff]
  simp
section
variable {K : PySem.W.Frag} {H F : Hp} {L : List (Addr × HO)} {Q : VK} {p q : Addr} {xs ys : List V} {i j : Int} {lo hi : Option Int}
theorem n_tupleF (W : Hold F L H) (hp : SqL K H p xs) (k : ∀ (r : Addr) (F' H' : Hp), Same F F' → F' r = some (.tup xs) → Hold F' L H' → Q (.ref r) H') : uTuple K [.ref p] H Q := l_tupleL hp (newF W fun r F' H' s h W' _ => k r F' H' s h W')
theorem n_listF (W : Hold F L H) (hp : SqL K H p xs ∨ SqT K H p xs) (k : ∀ (r : Addr) (F' H' : Hp), Same F F' → F' r = some (.lst xs) → Hold F' L H' → Q (.ref r) H') : uList K [.ref p] H Q := l_list hp (newF W fun r F' H' s h W' _ => k r F' H' s h W')
theorem n_listL (W : Hold F L H) (hp : SqL K H p xs ∨ SqT K H p xs) (k : ∀ (r : Addr) (H' : Hp), Hold F ((r, .lst xs) :: L) H' → Q (.ref r) H') : uList K [.ref p] H Q := l_list hp (newL W k)
theorem n_slF (W : Hold F L H) (hp : SqL K H p xs) (k : ∀ (r : Addr) (F' H' : Hp), Same F F' → F' r = some (.lst (cutV xs lo hi)) → Hold F' L H' → Q (.ref r) H') : uSl K (.ref p) lo hi H Q := l_slL hp (newF W fun r F' H' s h W' _ => k r F' H' s h W')
theorem n_slL (W : Hold F L H) (hp : SqL K H p xs) (k : ∀ (r : Addr) (H' : Hp), Hold F ((r, .lst (cutV xs lo hi)) :: L) H' → Q (.ref r) H') : uSl K (.ref p) lo hi H Q := l_slL hp (newL W k)
theorem n_addF (W : Hold F L H) (hp : H p = some (.lst xs)) (hq : H q = some (.lst ys)) (hl : xs.length + ys.length ≤ sizeLine) (k : ∀ (r : Addr) (F' H' : Hp), Same F F' → F' r = some (.lst (xs ++ ys)) → Hold F' L H' → Q (.ref r) H') : uAdd K (.ref p) (.ref q) H Q := l_addL hp hq hl (newF W fun r F' H' s h W' _ => k r F' H' s h W')
theorem n_addL (W : Hold F L H) (hp : H p = some (.lst xs)) (hq : H q = some (.lst ys)) (hl : xs.length + ys.length ≤ sizeLine) (k : ∀ (r : Addr) (H' : Hp), Hold F ((r, .lst (xs ++ ys)) :: L) H' → Q (.ref r) H') : uAdd K (.ref p) (.ref q) H Q := l_addL hp hq hl (newL W k)
theorem rep_one {v : V} (n : Nat) : (List.replicate n [v]).flatten = List.replicate n v := by
  induction n with
  | zero => rfl
  | succ n ih => rw [List.replicate_succ, List.flatten_cons, ih, List.replicate_succ]; rfl
theorem n_mul1L {v : V} (W : Hold F L H) (hp : H p = some (.lst [v])) (h2 : j < 100000) (k : ∀ (r : Addr) (H' : Hp), Hold F ((r, .lst (List.replicate j.toNat v)) :: L) H' → Q (.ref r) H') (h1 : -100000 < j) : uMul K (.ref p) (.int j) H Q :=
  l_mulL hp (by omega) (by omega) (by show 1 * j.toNat ≤ _; exact szl (by omega)) (newL W fun r H' W' => k r H' (by rw [rep_one] at W'; exact W'))
theorem n_mul1F {v : V} (W : Hold F L H) (hp : H p = some (.lst [v])) (h2 : j < 100000) (k : ∀ (r : Addr) (F' H' : Hp), Same F F' → F' r = some (.lst (List.replicate j.toNat v)) → Hold F' L H' → Q (.ref r) H') (h1 : -100000 < j) : uMul K (.ref p) (.int j) H Q :=
  l_mulL hp (by omega) (by omega) (by show 1 * j.toNat ≤ _; exact szl (by omega)) (newF W fun r F' H' s h W' _ => k r F' H' s (by rw [rep_one] at h; exact h) W')
end
theorem tyX_gr {K : PySem.W.Frag} {F F' : Hp} {x : V} {t : Value} (g : Gr F F') (h : TyX K F x t) : TyX K F' x t := by
  cases h with
  | base b =>
    refine .base ?_
    cases b with
    | non => exact .non
    | bl y => exact .bl y
    | int i => exact .int i
    | str y => exact .str y
    | flt y => exact .flt y
    | lst e => exact .lst (g _ _ e fun _ z => by cases z)
    | frz e => exact .frz (g _ _ e fun _ z => by cases z)
    | tup e => exact .tup (g _ _ e fun _ z => by cases z)
    | dK e => exact .dK (g _ _ e fun _ z => by cases z)
    | dT e => exact .dT (g _ _ e fun _ z => by cases z)
    | ins e a b c d f => exact .ins (g _ _ e fun _ z => by cases z) a b c d f
  | byt b => exact .byt b
  | set e => exact .set (g _ _ e fun _ z => by cases z)
  | kList e c => exact .kList e c
  | kTuple e c => exact .kTuple e c
  | kDict e c => exact .kDict e c
  | fTuple e => exact .fTuple (g _ _ e fun _ z => by cases z)
  | fDict e => exact .fDict (g _ _ e fun _ z => by cases z)
theorem dpAll_of {K : PySem.W.Frag} {F : Hp} : ∀ {ys : List V} {ds : List PyData}, ys.length = ds.length → (∀ i, i < ds.length → Dp K F (ys.getD i .non) (ds.getD i .none)) → DpAll K F ys ds
  | [], [], _, _ => .nil
  | [], _ :: _, e, _ => (nomatch e)
  | _ :: _, [], e, _ => (nomatch e)
  | y :: ys, d :: ds, e, h => .cons (h 0 (Nat.zero_lt_succ _)) (dpAll_of (Nat.succ.inj e) fun i hi => h (i + 1) (Nat.succ_lt_succ hi))
theorem dp_ints {K : PySem.W.Frag} {F : Hp} : ∀ (l : List Nat), DpAll K F (l.map fun (n : Nat) => V.int n) (l.map fun (n : Nat) => .int n)
  | [] => .nil
  | n :: l => .cons (.int _) (dp_ints l)
theorem dpAll_len {K : PySem.W.Frag} {F : Hp} : ∀ {ys : List V} {ds : List PyData}, DpAll K F ys ds → ys.length = ds.length
  | _, _, .nil => rfl
  | _, _, .cons _ h => congrArg Nat.succ (dpAll_len h)
theorem dpAll_get {K : PySem.W.Frag} {F : Hp} : ∀ {ys : List V} {ds : List PyData}, DpAll K F ys ds → ∀ i, i < ds.length → Dp K F (ys.getD i .non) (ds.getD i .none)
  | _, _, .nil, _, h => absurd h (Nat.not_lt_zero _)
  | _, _, .cons h _, 0, _ => h
  | _, _, .cons _ h, i + 1, hi => dpAll_get h i (Nat.lt_of_succ_lt_succ hi)
theorem dpAll_app {K : PySem.W.Frag} {F : Hp} : ∀ {ys zs : List V} {ds es : List PyData}, DpAll K F ys ds → DpAll K F zs es → DpAll K F (ys ++ zs) (ds ++ es)
  | _, _, _, _, .nil, h => h
  | _, _, _, _, .cons h1 h2, h => .cons h1 (dpAll_app h2 h)
end Ss
/-! ## Part 8: leaves over texts by codes -/
namespace Ss
open PySem PySem.Spec PyProof.Rows L2
theorem st_of {K : PySem.W.Frag} {H : Hp} {a : Addr} {xs : List V} (h : H a = some (.tup xs)) : SqT K H a xs := Or.inl (Or.inl h)
theorem sq_of {K : PySem.W.Frag} {H : Hp} {a : Addr} {xs : List V} (h : H a = some (.lst xs)) : SqL K H a xs := Or.inl (Or.inl h)
def cutL {α : Type} (l : List α) (lo hi : Option Int) : List α := (l.drop (HT.sIx l.length 0 lo)).take (HT.sIx l.length l.length hi - HT.sIx l.length 0 lo)
theorem sIx_nat (n d k : Nat) : HT.sIx n d (some (k : Int)) = min k n := by
  show (if ((k : Nat) : Int) < 0 then (((k : Nat) : Int) + n).toNat else min ((k : Nat) : Int).toNat n) = _
  rw [if_neg (by omega)]
  omega
theorem sIx_neg (n d k : Nat) (hk : 0 < k) : HT.sIx n d (some (-(k : Int))) = n - k := by
  show (if -((k : Nat) : Int) < 0 then (-((k : Nat) : Int) + n).toNat else min (-((k : Nat) : Int)).toNat n) = _
  rw [if_pos (by omega)]
  omega
theorem drop_min {α : Type} (l : List α) (k : Nat) : l.drop (min k l.length) = l.drop k := by
  by_cases h : k ≤ l.length
  · rw [Nat.min_eq_left h]
  · rw [Nat.min_eq_right (by omega), List.drop_length, List.drop_eq_nil_of_le (by omega)]
/-- l[k:] -/
theorem cutL_from {α : Type} (l : List α) (k : Nat) : cutL l (some (k : Int)) none = l.drop k := by
  unfold cutL
  rw [sIx_nat, drop_min]
  show (l.drop k).take (l.length - min k l.length) = _
  exact List.take_of_length_le (by rw [List.length_drop]; omega)
/-- l[:k] -/
theorem cutL_to {α : Type} (l : List α) (k : Nat) : cutL l none (some (k : Int)) = l.take k := by
  unfold cutL
  rw [sIx_nat]
  show (l.drop 0).take (min k l.length - 0) = _
  rw [List.drop_zero, Nat.sub_zero]
  by_cases h : k ≤ l.length
  · rw [Nat.min_eq_left h]
  · rw [Nat.min_eq_right (by omega), List.take_length, List.take_of_length_le (by omega)]
/-- l[j:k] -/
theorem cutL_mid {α : Type} (l : List α) (j k : Nat) : cutL l (some (j : Int)) (some (k : Int)) = (l.drop j).take (k - j) := by
  unfold cutL
  rw [sIx_nat, sIx_nat, drop_min]
  by_cases h : k ≤ l.length
  · by_cases h2 : j ≤ l.length
    · rw [Nat.min_eq_left h, Nat.min_eq_left h2]
    · rw [List.drop_eq_nil_of_le (by omega)]; simp
  · rw [Nat.min_eq_right (by omega : l.length ≤ k)]
    rw [List.take_of_length_le (by rw [List.length_drop]; omega), List.take_of_length_le (by rw [List.length_drop]; omega)]
/-- l[j:-1] -/
theorem cutL_last {α : Type} (l : List α) (j : Nat) : cutL l (some (j : Int)) (some (-1)) = (l.drop j).take (l.length - 1 - j) := by
  unfold cutL
  rw [sIx_nat, drop_min, show (-1 : Int) = -((1 : Nat) : Int) from rfl, sIx_neg _ _ _ (by decide)]
  by_cases h2 : j ≤ l.length
  · rw [Nat.min_eq_left h2]
  · rw [List.drop_eq_nil_of_le (by omega)]; simp
theorem cutS_T (l : List Nat) (lo hi : Option Int) : cutS (T l) lo hi = T (cutL l lo hi) := by
  unfold cutS cutL
  rw [T_len, T_list]
theorem cutV_L (l : List V) (lo hi : Option Int) : cutV l lo hi = cutL l lo hi := rfl
theorem atI_nat {α : Type} {xs : List α} {i : Nat} {v : α} (h : xs[i]? = some v) : atI xs (i : Int) = some v := by
  have hi : i < xs.length := (List.getElem?_eq_some_iff.mp h).1
  unfold atI ixN
  rw [if_pos (by omega), if_pos (by omega)]
  exact h
theorem atI_last {α : Type} {xs : List α} {v : α} : atI (xs ++ [v]) (-1) = some v := by
  unfold atI ixN
  rw [if_neg (by omega), if_pos (by simp; omega)]
  have e : ((-1 : Int) + ((xs ++ [v]).length : Nat)).toNat = xs.length := by simp; omega
  rw [e]
  simp
theorem one1 {n m : Nat} : ([n] : List Nat) = [m] ↔ n = m := by simp
section
variable {K : PySem.W.Frag} {H F : Hp} {L : List (Addr × HO)} {Q : VK} {l m : List Nat} {i : Int} {n : Nat} {lo hi : Option Int}
theorem X_len (hl : l.length ≤ 100000000) (hs : l.length ≤ sizeLine) (h : Q (.int l.length) H) : uLen K [.str (T l)] H Q := l_lenS (by rw [T_len]; exact hs) (by rw [T_len]; exact h)
theorem l_lenX (hl : l.length ≤ 1000000) (h : Q (.int l.length) H) : uLen K [.str (T l)] H Q := l_lenS (by rw [T_len]; exact Nat.le_trans hl (by decide)) (by rw [T_len]; exact h)
theorem l_addX (hl : l.length + m.length ≤ 1000000) (h : Q (.str (T (l ++ m))) H) : uAdd K (.str (T l)) (.str (T m)) H Q := l_addS (by rw [T_len, T_len]; exact Nat.le_trans hl (by decide)) (by rw [T_app]; exact h)
theorem l_ixX (hl : l.length ≤ 1000000) (ha : atI l i = some n) (h : Q (.str (T [n])) H) : uIx K (.str (T l)) (.int i) H Q := l_ixS (by rw [T_len]; exact Nat.le_trans hl (by decide)) (by rw [T_list]; exact ha) h
theorem l_slX (hl : l.length ≤ 1000000) (h : Q (.str (T (cutL l lo hi))) H) : uSl K (.str (T l)) lo hi H Q := l_slS (by rw [T_len]; exact Nat.le_trans hl (by decide)) (by rw [cutS_T]; exact h)
theorem l_eqX (h : Q (.bl (decide (l = m))) H) : uEq K (.str (T l)) (.str (T m)) H Q := l_eq rfl (by rw [T_eq]; exact h)
theorem l_neX (h : Q (.bl (!decide (l = m))) H) : uNe K (.str (T l)) (.str (T m)) H Q := l_ne rfl (by rw [T_eq]; exact h)
theorem l_eqII {i j : Int} (h : Q (.bl (decide (i = j))) H) : uEq K (.int i) (.int j) H Q := l_eq rfl (by
  have e : decide (V.int i = V.int j) = decide (i = j) := by rw [Bool.eq_iff_iff]; simp
  rw [e]; exact h)
theorem l_neII {i j : Int} (h : Q (.bl (!decide (i = j))) H) : uNe K (.int i) (.int j) H Q := l_ne rfl (by
  have e : decide (V.int i = V.int j) = decide (i = j) := by rw [Bool.eq_iff_iff]; simp
  rw [e]; exact h)
theorem l_inX (h : Q (.bl (decide (n ∈ l))) H) : uIn K (.str (T [n])) (.str (T l)) H Q := l_inS (by rw [T_list]; exact h)
theorem l_niX (h : Q (.bl (!decide (n ∈ l))) H) : uNotIn K (.str (T [n])) (.str (T l)) H Q := l_niS (by rw [T_list]; exact h)
theorem l_count {s : Nat} (h : Q (.int (cnt s l)) H) : u_count (.str (T l)) [.str (T [s])] H Q := ⟨_, _, rfl, rfl, by rw [count_cnt, T_list]; exact h⟩
theorem l_split {ps : List (List Nat)} {s : Nat} (W : Hold F L H) (hs : s < 256) (hl : (TL.joinL [s] ps).length ≤ 1000000) (hne : ps ≠ []) (hp : ∀ p ∈ ps, s ∉ p)
    (k : ∀ (r : Addr) (F' H' : Hp), Same F F' → F' r = some (.lst (ps.map fun p => .str (T p))) → Hold F' L H' → Q (.ref r) H') : u_split (.str (T (TL.joinL [s] ps))) [.str (T [s])] H Q := by
  refine ⟨_, _, rfl, rfl, rfl, ?_, ?_⟩
  · rw [T_len]; exact Nat.le_trans (Nat.add_le_add_right hl 2) (by decide)
  have e : Txt.split (T (TL.joinL [s] ps)) (T [s]) = ps.map T := by
    have z := TL.split_join (y := T [s]) (s := s) (S := []) rfl (by simp; exact hs) (parts := ps.map T) (by simpa using hne) (fun p hp' => by
      obtain ⟨q, hq, rfl⟩ := List.mem_map.mp hp'
      exact hp q hq)
    have e2 : Txt.join (T [s]) (ps.map T) = T (TL.joinL [s] ps) := by
      refine TL.ext_tl ?_
      rw [TL.join_eq, TL.tl_join]
      have e3 : (ps.map T).map TL.tl = ps := by rw [List.map_map]; simp [Function.comp_def]
      rw [e3]
    rw [← e2]; exact z
  rw [e]
  have e4 : (ps.map T).map V.str = ps.map fun p => .str (T p) := by rw [List.map_map]; rfl
  intro r hr
  rw [e4]
  exact newF W (fun r F' H' s h W' _ => k r F' H' s h W') r hr
end
/-! ### numbers that are Nat's -/
section
variable {K : PySem.W.Frag} {H F : Hp} {L : List (Addr × HO)} {Q : VK} {n m k : Nat}
theorem g_addNN (h : Q (.int ((n + m : Nat) : Int)) H) : uAdd K (.int (n : Int)) (.int (m : Int)) H Q := l_addI h
theorem g_addNL (h : Q (.int ((n + OfNat.ofNat k : Nat) : Int)) H) : uAdd K (.int (n : Int)) (.int (OfNat.ofNat k)) H Q := l_addI h
theorem g_addLN (h : Q (.int ((OfNat.ofNat k + n : Nat) : Int)) H) : uAdd K (.int (OfNat.ofNat k)) (.int (n : Int)) H Q := l_addI h
theorem g_mulNN (hb : n < 2 ^ 400) (hb2 : m < 2 ^ 400) (h : Q (.int ((n * m : Nat) : Int)) H) : uMul K (.int (n : Int)) (.int (m : Int)) H Q :=
  l_mulI (mulx_ok (a := 400) (b := 400) (by omega) (by omega) (by decide)) (by
    have e : ((n * m : Nat) : Int) = (n : Int) * (m : Int) := Int.natCast_mul n m
    rw [← e]; exact h)
theorem g_divNL (hk : 0 < k) (hk2 : k < 2 ^ 100) (h : Q (.int ((n / OfNat.ofNat k : Nat) : Int)) H) : uDiv (.int (n : Int)) (.int (OfNat.ofNat k)) H Q := by
  refine l_divI (wide_div (b := 100) ?_ ?_ (by decide) (by decide)) (by
    have e : ((n / OfNat.ofNat k : Nat) : Int) = (n : Int) / (OfNat.ofNat k : Int) := by exact Int.natCast_ediv n k
    rw [← e]; exact h)
  · show (0 : Int) < ((k : Nat) : Int); omega
  · show ((k : Nat) : Int).natAbs < _; omega
theorem g_modNL (hk : 0 < k) (h : Q (.int ((n % OfNat.ofNat k : Nat) : Int)) H) : uMod (.int (n : Int)) (.int (OfNat.ofNat k)) H Q := by
  refine l_modI ?_ (by
    have e : ((n % OfNat.ofNat k : Nat) : Int) = (n : Int) % (OfNat.ofNat k : Int) := by exact Int.natCast_emod n k
    rw [← e]; exact h)
  · show (0 : Int) < ((k : Nat) : Int); omega
theorem g_modNN (hk : 0 < k) (h : Q (.int ((n % k : Nat) : Int)) H) : uMod (.int (n : Int)) (.int (k : Int)) H Q := by
  refine l_modI (by omega) (by
    have e : ((n % k : Nat) : Int) = (n : Int) % (k : Int) := Int.natCast_emod n k
    rw [← e]; exact h)
theorem g_divNN (hk : 0 < k) (hk2 : k < 2 ^ 100) (h : Q (.int ((n / k : Nat) : Int)) H) : uDiv (.int (n : Int)) (.int (k : Int)) H Q := by
  refine l_divI (wide_div (b := 100) (by omega) (by omega) (by decide) (by decide)) (by
    have e : ((n / k : Nat) : Int) = (n : Int) / (k : Int) := Int.natCast_ediv n k
    rw [← e]; exact h)
theorem g_eqNL (h : Q (.bl (decide (n = OfNat.ofNat k))) H) : uEq K (.int (n : Int)) (.int (OfNat.ofNat k)) H Q := l_eqII (by
  have e : decide ((n : Int) = (OfNat.ofNat k : Int)) = decide (n = OfNat.ofNat k) := by
    rw [Bool.eq_iff_iff, decide_eq_true_eq, decide_eq_true_eq]
    exact Int.ofNat_inj
  rw [e]; exact h)
theorem g_ltNL (h : Q (.bl (decide (n < OfNat.ofNat k))) H) : uLt (.int (n : Int)) (.int (OfNat.ofNat k)) H Q := l_ltI (by
  have e : decide ((n : Int) < (OfNat.ofNat k : Int)) = decide (n < OfNat.ofNat k) := by
    rw [Bool.eq_iff_iff, decide_eq_true_eq, decide_eq_true_eq]
    exact Int.ofNat_lt
  rw [e]; exact h)
/-- an item of a written text -/
theorem g_ixX {l : List Nat} (hl : l.length ≤ 1000000) (hi : n < l.length) (h : Q (.str (T [l.getD n 0])) H) : uIx K (.str (T l)) (.int (n : Int)) H Q :=
  l_ixX hl (atI_nat (by rw [List.getD_eq_getElem?_getD, List.getElem?_eq_getElem hi]; rfl)) h
theorem g_ixL {p : Addr} {xs : List V} (hp : SqL K H p xs) (hi : n < xs.length) (h : Q (xs.getD n .non) H) : uIx K (.ref p) (.int (n : Int)) H Q :=
  l_ixL hp (atI_nat (by rw [List.getD_eq_getElem?_getD, List.getElem?_eq_getElem hi]; rfl)) h
end
/-! ### join, str -/
section
variable {K : PySem.W.Frag} {H F : Hp} {L : List (Addr × HO)} {Q : VK}
theorem l_strN {n : Nat} (hn : n < 2 ^ 1000) (h : Q (.str (T (TL.numL n))) H) : uStr [.int ((n : Nat) : Int)] H Q := by
  refine l_str ?_ ?_
  · rw [Int.natAbs_natCast]
    by_cases h0 : n = 0
    · rw [h0]; decide
    · exact Nat.lt_trans ((Nat.log2_lt h0).mpr hn) (by decide)
  · have e : (Str.ofString (toString ((n : Nat) : Int))) = T (TL.numL n) := TL.ext_tl (by rw [TL.tl_num, TL.tl_mk])
    rw [e]; exact h
theorem sum_le {b : Nat} : ∀ {l : List Nat}, (∀ x ∈ l, x ≤ b) → l.sum ≤ b * l.length
  | [], _ => by simp
  | x :: l, h => by
    have h1 := h x List.mem_cons_self
    have h2 := sum_le (l := l) fun y hy => h y (List.mem_cons_of_mem _ hy)
    rw [List.sum_cons, List.length_cons, Nat.mul_succ]
    omega
theorem l_join {p : Addr} {ls : List (List Nat)} {sep : List Nat} (b : Nat) (hs : SqL K H p (ls.map fun l => .str (T l)) ∨ SqT K H p (ls.map fun l => .str (T l))) (hb : ∀ l ∈ ls, l.length ≤ b) (hn : b * ls.length + ls.length * sep.length ≤ 16000000)
    (h : Q (.str (T (TL.joinL sep ls))) H) : u_join K (.str (T sep)) [.ref p] H Q := by
  have e4 : (ls.map T).map V.str = ls.map fun l => .str (T l) := by rw [List.map_map]; rfl
  refine ⟨T sep, p, ls.map T, rfl, rfl, by rw [e4]; exact hs, ?_, ?_⟩
  · have e : ((ls.map T).map (·.length)) = ls.map (·.length) := by
      rw [List.map_map]
      exact List.map_congr_left fun l _ => T_len l
    rw [e, T_len, List.length_map]
    have := sum_le (b := b) (l := ls.map (·.length)) fun x hx => by obtain ⟨l, hl, rfl⟩ := List.mem_map.mp hx; exact hb l hl
    rw [List.length_map] at this
    omega
  · have e2 : Txt.join (T sep) (ls.map T) = T (TL.joinL sep ls) := by
      refine TL.ext_tl ?_
      rw [TL.join_eq, TL.tl_join]
      have e3 : (ls.map T).map TL.tl = ls := by rw [List.map_map]; simp [Function.comp_def]
      rw [e3]
    rw [e2]; exact h
theorem joinL_nil : ∀ (ls : List (List Nat)), TL.joinL [] ls = ls.flatten
  | [] => rfl
  | [l] => by simp [TL.joinL]
  | l :: m :: ls => by
    show l ++ ([] ++ TL.joinL [] (m :: ls)) = _
    rw [joinL_nil (m :: ls)]
    simp
theorem joinL_len {sep : List Nat} {b : Nat} : ∀ {ls : List (List Nat)}, (∀ l ∈ ls, l.length ≤ b) → (TL.joinL sep ls).length ≤ (b + sep.length) * ls.length
  | [], _ => by simp [TL.joinL]
  | [l], h => by have := h l List.mem_cons_self; simp [TL.joinL]; omega
  | l :: m :: ls, h => by
    have h1 := h l List.mem_cons_self
    have h2 := joinL_len (sep := sep) (ls := m :: ls) fun x hx => h x (List.mem_cons_of_mem _ hx)
    show (l ++ (sep ++ TL.joinL sep (m :: ls))).length ≤ _
    rw [List.length_append, List.length_append, List.length_cons, Nat.mul_succ]
    omega
end
theorem numL_len4 {n : Nat} (h : n ≤ 9999) : (TL.numL n).length ≤ 4 := TL.numL_len (by decide) (by omega)
/-! ### written dicts -/
theorem pairs_const {σ : L2.St} {R : List (V × V) → Hp → Prop} : ∀ (kvs : List (Key × V)) {H : Hp}, R (kvs.map fun kv => (kV kv.1, kv.2)) H → tPairs (kvs.map fun kv => ((tC (kV kv.1), tC kv.2) : TE × TE)) σ H R
  | [], H, h => h
  | kv :: kvs, H, h => pairs_const (R := fun ps H' => R ((kV kv.1, kv.2) :: ps) H') kvs h
theorem n_dispC {σ : L2.St} {H F : Hp} {L : List (Addr × HO)} {Q : VK} {trs : List (TE × TE)} (kvs : List (Key × V)) (W : Hold F L H) (e : trs = kvs.map fun kv => ((tC (kV kv.1), tC kv.2) : TE × TE)) (hl : kvs.length ≤ 15)
    (k : ∀ (p : Addr) (H' : Hp), Hold F ((p, .dK (mergeK [] kvs)) :: L) H' → Q (.ref p) H') : tDisp trs σ H Q := by
  subst e
  intro p hp
  refine pairs_const kvs ⟨upd_same, kvs, rfl, hl, k p _ ?_⟩
  rw [upd_upd]
  exact W.make hp
theorem x_dget2 {σ : L2.St} {H : Hp} {Q : VK} {td ty tx : TE} (h : td σ H fun x H1 => ∃ a, x = .ref a ∧ IsD H1 a ∧ ty σ H1 fun y H2 => tx σ H2 fun z H3 => ∃ o, DGet H3 a y o ∧ Q (o.getD z) H3) : tDGet2 td ty tx σ H Q := h
theorem x_isd {H : Hp} {a : Addr} {kvs : List (Key × V)} {P : Addr → Prop} (h : H a = some (.dK kvs)) (q : P a) : ∃ a', V.ref a = .ref a' ∧ IsD H a' ∧ P a' := ⟨a, rfl, .inl ⟨kvs, .inl h⟩, q⟩
theorem x_dgetS {H : Hp} {a : Addr} {kvs : List (Key × V)} {z : Str} {P : Option V → Prop} (h : H a = some (.dK kvs)) (q : P (valV kvs (Sum.inr z))) : ∃ o, DGet H a (.str z) o ∧ P o := ⟨_, DGet.k (k := Sum.inr z) h, q⟩
/-! ### data that == takes -/
def Sh (k : Nat) (d : PyData) : Prop := d.canLay0 = true ∧ d.depth ≤ k
theorem Sh.shaped {k : Nat} {d : PyData} (h : Sh k d) (hk : k ≤ 64) : SeqAt.shaped d = true := by
  unfold SeqAt.shaped
  rw [h.1, decide_eq_true (Nat.le_trans h.2 hk)]; rfl
theorem Sh.eqv {k : Nat} {d : PyData} (h : Sh k d) : PyData.eqv d d = true := SeqAt.eqv_refl d h.1
theorem Sh.none {k : Nat} : Sh k .none := ⟨rfl, Nat.zero_le _⟩
theorem Sh.bl {k : Nat} {b : Bool} : Sh k (.bool b) := ⟨rfl, Nat.zero_le _⟩
theorem Sh.int {k : Nat} {i : Int} : Sh k (.int i) := ⟨rfl, Nat.zero_le _⟩
theorem Sh.str {k : Nat} {l : List Nat} (h : ∀ x ∈ l, x < 1114112) : Sh k (.str (T l)) := ⟨by
  show (T l).cps.all (· < 0x110000) = true
  rw [← Array.all_toList, T_list, List.all_eq_true]
  exact fun x hx => decide_eq_true (h x hx), Nat.zero_le _⟩
theorem sh_all {k : Nat} : ∀ {ds : List PyData}, (∀ d ∈ ds, Sh k d) → PyData.canLayAll0 ds = true ∧ PyData.depthAll ds ≤ k
  | [], _ => ⟨rfl, Nat.zero_le _⟩
  | d :: ds, h => by
    obtain ⟨a, b⟩ := h d List.mem_cons_self
    obtain ⟨a2, b2⟩ := sh_all (ds := ds) fun x hx => h x (List.mem_cons_of_mem _ hx)
    refine ⟨?_, ?_⟩
    · show (d.canLay0 && PyData.canLayAll0 ds) = true
      rw [a, a2]; rfl
    · show max d.depth (PyData.depthAll ds) ≤ k
      exact Nat.max_le.mpr ⟨b, b2⟩
theorem Sh.lst {k : Nat} {ds : List PyData} (h : ∀ d ∈ ds, Sh k d) : Sh (k + 1) (.list ds) := ⟨(sh_all h).1, Nat.succ_le_succ (sh_all h).2⟩
theorem Sh.tup {k : Nat} {ds : List PyData} (h : ∀ d ∈ ds, Sh k d) : Sh (k + 1) (.tuple ds) := ⟨(sh_all h).1, Nat.succ_le_succ (sh_all h).2⟩
theorem Sh.ints {k : Nat} (l : List Int) : Sh (k + 1) (.list (l.map PyData.int)) := .lst fun d hd => by
  obtain ⟨i, _, rfl⟩ := List.mem_map.mp hd
  exact .int
theorem dpAll_ints {K : PySem.W.Frag} {F : Hp} : ∀ (l : List Int), DpAll K F (l.map V.int) (l.map PyData.int)
  | [] => .nil
  | n :: l => .cons (.int _) (dpAll_ints l)
theorem Sh.mono {k k' : Nat} {d : PyData} (h : Sh k d) (hk : k ≤ k') : Sh k' d := ⟨h.1, Nat.le_trans h.2 hk⟩
end Ss
/-! ## Reader: the model -/
namespace Ss
open PySem PySem.Spec PyProof.Rows L2
abbrev v_SMALL (_ : Ctx) : V := .str ⟨#[97, 98, 99, 100, 101, 102, 103, 104, 105, 106, 107, 108, 109, 110, 111, 112, 113, 114, 115, 116, 117, 118, 119, 120, 121, 122]⟩
abbrev v_GREAT (_ : Ctx) : V := .str ⟨#[65, 66, 67, 68, 69, 70, 71, 72, 73, 74, 75, 76, 77, 78, 79, 80, 81, 82, 83, 84, 85, 86, 87, 88, 89, 90]⟩
abbrev v_FIGURES (_ : Ctx) : V := .str ⟨#[48, 49, 50, 51, 52, 53, 54, 55, 56, 57]⟩
abbrev v_MOST_TEXT (_ : Ctx) : V := .int 4000
abbrev v_MOST_FIGURES (_ : Ctx) : V := .int 4
abbrev v_MOST_ARGUMENTS (_ : Ctx) : V := .int 4
abbrev v_BARRED (_ : Ctx) : V := .int 37
abbrev v_GAP (_ : Ctx) : V := .str ⟨#[10]⟩
/-! ### the attributes of a Reader -/
def fsReader (x0 x1 : V) : List (Str × V) := [("begun", x0), ("lost", x1)]
theorem fsReader_len {x0 x1 : V} : (fsReader x0 x1).length < 1000 := by show 2 < 1000; decide
theorem fsReader_g0 {x0 x1 : V} : (fsReader x0 x1).lookup ("begun" : Str) = some x0 := by kernel_rfl
theorem fsReader_p0 {x0 x1 y : V} : putF "begun" y (fsReader x0 x1) = fsReader y x1 := by kernel_rfl
theorem fsReader_g1 {x0 x1 : V} : (fsReader x0 x1).lookup ("lost" : Str) = some x1 := by kernel_rfl
theorem fsReader_p1 {x0 x1 y : V} : putF "lost" y (fsReader x0 x1) = fsReader x0 y := by kernel_rfl
theorem fsReader_m_dropped {x0 x1 : V} : (fsReader x0 x1).lookup ("dropped" : Str) = none := by kernel_rfl
theorem fsReader_m_left {x0 x1 : V} : (fsReader x0 x1).lookup ("left" : Str) = none := by kernel_rfl
theorem fsReader_m_feed {x0 x1 : V} : (fsReader x0 x1).lookup ("feed" : Str) = none := by kernel_rfl
theorem fsReader_m_plain {x0 x1 : V} : (fsReader x0 x1).lookup ("plain" : Str) = none := by kernel_rfl
theorem fsReader_m_read {x0 x1 : V} : (fsReader x0 x1).lookup ("read" : Str) = none := by kernel_rfl
theorem fsReader_m_can_go_on {x0 x1 : V} : (fsReader x0 x1).lookup ("can_go_on" : Str) = none := by kernel_rfl
theorem fsReader_m_whole {x0 x1 : V} : (fsReader x0 x1).lookup ("whole" : Str) = none := by kernel_rfl
/-- what is asked of the class -/
structure FReader (c : Ctx) : Prop where
  cl : Cls c.K c.cReader
  n_begun : NoAttr c.K c.cReader "begun"
  n_lost : NoAttr c.K c.cReader "lost"

/-- the signs -/
def isSign (n : Nat) : Bool := n == 10 || (decide (32 ≤ n) && decide (n ≤ 126) && n != 37)
def isSmall (n : Nat) : Bool := decide (97 ≤ n) && decide (n ≤ 122)
def isGreat (n : Nat) : Bool := decide (65 ≤ n) && decide (n ≤ 90)
def isFig (n : Nat) : Bool := decide (48 ≤ n) && decide (n ≤ 57)
/-- what signs tell -/
inductive Tk where
  | sign (n : Nat)
  | fin
  | act (w : Nat) (ns : List Nat)
  deriving DecidableEq
/-- a command that isn't whole yet -/
inductive Pre where
  | no | hat | cap (g : Nat) | op (g : Nat) (ps : List (List Nat)) (la : List Nat)
  deriving DecidableEq
def partsText (ps : List (List Nat)) : List Nat := ps.flatMap (· ++ [44])
def Pre.text : Pre → List Nat
  | .no => []
  | .hat => [94]
  | .cap g => [94, g]
  | .op g ps la => [94, g, 40] ++ (partsText ps ++ la)
def figsOk (l : List Nat) : Prop := l.length ≤ 4 ∧ ∀ x ∈ l, isFig x = true
def Pre.Wf : Pre → Prop
  | .no => True
  | .hat => True
  | .cap g => isGreat g = true
  | .op g ps la => isGreat g = true ∧ ps.length ≤ 3 ∧ (∀ p ∈ ps, p ≠ [] ∧ figsOk p) ∧ figsOk la
/-- a command goes on with a sign -/
def Pre.step (p : Pre) (n : Nat) : Option (Pre × List Tk) :=
  match p with
  | .no => none
  | .hat => if n = 94 then some (.no, [.sign 94]) else if isSmall n then some (.no, [.act n []]) else if isGreat n then some (.cap n, []) else none
  | .cap g => if n = 40 then some (.op g [] [], []) else none
  | .op g ps la =>
    if isFig n then (if la.length < 4 then some (.op g ps (la ++ [n]), []) else none)
    else if n = 44 then (if la ≠ [] ∧ ps.length < 3 then some (.op g (ps ++ [la]) [], []) else none)
    else if n = 41 ∧ (la ≠ [] ∨ ps = []) then some (.no, [.act g (if ps = [] ∧ la = [] then [] else (ps ++ [la]).map NumText.digitsVal)]) else none
/-- a reader: what is begun, how many were dropped -/
structure Rdr where
  pre : Pre
  lost : Nat
def plain (n : Nat) : Pre × List Tk := if n = 94 then (.hat, []) else if n = 10 then (.no, [.fin]) else (.no, [.sign n])
def Rdr.read (r : Rdr) (n : Nat) : Rdr × List Tk :=
  if r.pre = .no then (⟨(plain n).1, r.lost⟩, (plain n).2)
  else match r.pre.step n with
    | some (p, ts) => (⟨p, r.lost⟩, ts)
    | none => (⟨(plain n).1, r.lost + r.pre.text.length⟩, (plain n).2)
def Rdr.feed (r : Rdr) : List Nat → Rdr × List Tk
  | [] => (r, [])
  | n :: l => ((r.read n).1.feed l |>.1, (r.read n).2 ++ ((r.read n).1.feed l).2)
def Rdr.new : Rdr := ⟨.no, 0⟩
/-! ### the reader's promises hold on -/
theorem plain_wf (n : Nat) : (plain n).1.Wf := by
  unfold plain
  split
  · trivial
  · split <;> trivial
theorem step_wf {p q : Pre} {n : Nat} {ts : List Tk} (h : p.Wf) (e : p.step n = some (q, ts)) : q.Wf := by
  cases p with
  | no => cases e
  | hat =>
    unfold Pre.step at e
    dsimp only at e
    split at e
    · cases e; trivial
    · split at e
      · cases e; trivial
      · split at e
        · rename_i hg; cases e; exact hg
        · cases e
  | cap g =>
    unfold Pre.step at e
    dsimp only at e
    split at e
    · cases e; exact ⟨h, by simp, by simp, by simp [figsOk]⟩
    · cases e
  | op g ps la =>
    obtain ⟨h1, h2, h3, h4⟩ := h
    unfold Pre.step at e
    dsimp only at e
    split at e
    · rename_i hf
      split at e
      · rename_i hl
        cases e
        refine ⟨h1, h2, h3, by rw [List.length_append]; simp; omega, fun x hx => ?_⟩
        rcases List.mem_append.mp hx with hx | hx
        · exact h4.2 x hx
        · rw [List.mem_singleton.mp hx]; exact hf
      · cases e
    · split at e
      · split at e
        · rename_i hl
          cases e
          refine ⟨h1, by rw [List.length_append]; simp; omega, fun q hq => ?_, by simp [figsOk]⟩
          rcases List.mem_append.mp hq with hq | hq
          · exact h3 q hq
          · rw [List.mem_singleton.mp hq]; exact ⟨hl.1, h4⟩
        · cases e
      · split at e
        · cases e; trivial
        · cases e
theorem read_wf {r : Rdr} {n : Nat} (h : r.pre.Wf) : (r.read n).1.pre.Wf := by
  unfold Rdr.read
  split
  · exact plain_wf n
  · split
    · rename_i p ts e; exact step_wf h e
    · exact plain_wf n
theorem feed_wf {r : Rdr} : ∀ {l : List Nat}, r.pre.Wf → (r.feed l).1.pre.Wf
  | [], h => h
  | n :: l, h => feed_wf (r := (r.read n).1) (l := l) (read_wf h)
theorem feed_app (r : Rdr) : ∀ (l m : List Nat), r.feed (l ++ m) = ((r.feed l).1.feed m |>.1, (r.feed l).2 ++ ((r.feed l).1.feed m).2)
  | [], m => by simp [Rdr.feed]
  | n :: l, m => by
    show ((r.read n).1.feed (l ++ m) |>.1, (r.read n).2 ++ ((r.read n).1.feed (l ++ m)).2) = _
    rw [feed_app (r.read n).1 l m]
    simp [Rdr.feed]
theorem plain_len (n : Nat) : (plain n).2.length ≤ 1 := by
  unfold plain
  split
  · simp
  · split <;> simp
theorem read_len (r : Rdr) (n : Nat) : (r.read n).2.length ≤ 1 := by
  unfold Rdr.read
  split
  · exact plain_len n
  · split
    · rename_i p ts h
      cases hp : r.pre with
      | no => rw [hp] at h; cases h
      | hat =>
        rw [hp] at h
        unfold Pre.step at h
        dsimp only at h
        split at h
        · cases h; simp
        · split at h
          · cases h; simp
          · split at h <;> cases h; simp
      | cap g =>
        rw [hp] at h
        unfold Pre.step at h
        dsimp only at h
        split at h <;> cases h; simp
      | op g ps la =>
        rw [hp] at h
        unfold Pre.step at h
        dsimp only at h
        split at h
        · split at h <;> cases h; simp
        · split at h
          · split at h <;> cases h; simp
          · split at h <;> cases h; simp
    · exact plain_len n
theorem feed_len' (r : Rdr) : ∀ (l : List Nat), (r.feed l).2.length ≤ l.length
  | [] => Nat.le_refl _
  | n :: l => by
    have h1 := read_len r n
    have h2 := feed_len' (r.read n).1 l
    show ((r.read n).2 ++ ((r.read n).1.feed l).2).length ≤ _
    rw [List.length_append, List.length_cons]
    omega
theorem feed_len (r : Rdr) (i : Nat) (l : List Nat) : (r.feed (l.take i)).2.length ≤ i := Nat.le_trans (feed_len' r _) (by rw [List.length_take]; omega)
theorem parts_len : ∀ {ps : List (List Nat)}, (∀ p ∈ ps, p ≠ [] ∧ figsOk p) → (partsText ps).length ≤ 5 * ps.length
  | [], _ => by simp [partsText]
  | p :: ps, h => by
    have h1 := (h p List.mem_cons_self).2.1
    have h2 := parts_len (ps := ps) fun q hq => h q (List.mem_cons_of_mem _ hq)
    have e : partsText (p :: ps) = p ++ [44] ++ partsText ps := by simp [partsText]
    rw [e, List.length_append, List.length_append, List.length_cons]
    simp
    omega
theorem text_len {p : Pre} (h : p.Wf) : p.text.length ≤ 22 := by
  cases p with
  | no => simp [Pre.text]
  | hat => simp [Pre.text]
  | cap g => simp [Pre.text]
  | op g ps la =>
    have h1 := parts_len h.2.2.1
    have h2 := h.2.1
    have h3 := h.2.2.2.1
    simp only [Pre.text, List.length_append, List.length_cons, List.length_nil]
    omega
theorem text_no {p : Pre} : p.text = [] ↔ p = .no := by cases p <;> simp [Pre.text]
theorem joinL_parts : ∀ (ps : List (List Nat)) (la : List Nat), TL.joinL [44] (ps ++ [la]) = partsText ps ++ la
  | [], la => rfl
  | [p], la => by simp [partsText, TL.joinL]
  | p :: q :: ps, la => by
    have ih := joinL_parts (q :: ps) la
    show p ++ ([44] ++ TL.joinL [44] ((q :: ps) ++ [la])) = partsText (p :: q :: ps) ++ la
    rw [ih]
    simp [partsText]
theorem fig_ne {x : Nat} (h : isFig x = true) : x ≠ 44 ∧ x ≠ 40 ∧ x ≠ 41 ∧ x ≠ 94 := by
  unfold isFig at h
  simp at h
  omega
theorem fig_free {l : List Nat} (h : figsOk l) : 44 ∉ l := fun hm => (fig_ne (h.2 44 hm)).1 rfl
theorem cnt_parts : ∀ {ps : List (List Nat)}, (∀ p ∈ ps, p ≠ [] ∧ figsOk p) → cnt 44 (partsText ps) = ps.length
  | [], _ => rfl
  | p :: ps, h => by
    have e : partsText (p :: ps) = p ++ ([44] ++ partsText ps) := by simp [partsText]
    rw [e, cnt_append, cnt_append, cnt_parts fun q hq => h q (List.mem_cons_of_mem _ hq), cnt_none 44 p (fig_free (h p List.mem_cons_self).2)]
    have e2 : cnt 44 [44] = 1 := by rw [cnt_cons, cnt_nil]; rfl
    rw [e2, List.length_cons]
    omega
theorem step_cases {p q : Pre} {n : Nat} {ts : List Tk} (wf : p.Wf) (h : p.step n = some (q, ts)) :
    (p = .hat ∧ n = 94 ∧ q = .no ∧ ts = [.sign 94]) ∨ (p = .hat ∧ n ≠ 94 ∧ isSmall n = true ∧ q = .no ∧ ts = [.act n []]) ∨
    (ts = [] ∧ q.text = p.text ++ [n] ∧ n ≠ 41 ∧ p.text ++ [n] ≠ [94, 94] ∧ ¬ (p.text.length = 1 ∧ isSmall n = true) ∧ p ≠ .no) ∨
    (∃ g ps la, p = .op g ps la ∧ n = 41 ∧ (la ≠ [] ∨ ps = []) ∧ q = .no ∧ ts = [.act g (if ps = [] ∧ la = [] then [] else (ps ++ [la]).map NumText.digitsVal)]) := by
  cases p with
  | no => cases h
  | hat =>
    unfold Pre.step at h
    dsimp only at h
    by_cases h1 : n = 94
    · rw [if_pos h1] at h; cases h; exact .inl ⟨rfl, h1, rfl, rfl⟩
    · rw [if_neg h1] at h
      by_cases h2 : isSmall n = true
      · rw [if_pos h2] at h; cases h; exact .inr (.inl ⟨rfl, h1, h2, rfl, rfl⟩)
      · rw [if_neg h2] at h
        by_cases h3 : isGreat n = true
        · rw [if_pos h3] at h; cases h
          refine .inr (.inr (.inl ⟨rfl, rfl, ?_, by simp [Pre.text, h1], fun z => h2 z.2, by simp⟩))
          unfold isGreat at h3; simp at h3; omega
        · rw [if_neg h3] at h; cases h
  | cap g =>
    unfold Pre.step at h
    dsimp only at h
    by_cases h1 : n = 40
    · rw [if_pos h1] at h; cases h; subst h1
      exact .inr (.inr (.inl ⟨rfl, rfl, by decide, by simp [Pre.text], by simp [Pre.text], by simp⟩))
    · rw [if_neg h1] at h; cases h
  | op g ps la =>
    have t2 : (Pre.op g ps la).text ++ [n] ≠ [94, 94] := fun e => by
      have := congrArg List.length e
      simp [Pre.text] at this
    have t3 : ¬ ((Pre.op g ps la).text.length = 1 ∧ isSmall n = true) := fun e => by
      have := e.1
      simp [Pre.text] at this
    unfold Pre.step at h
    dsimp only at h
    by_cases h1 : isFig n = true
    · rw [if_pos h1] at h
      by_cases h2 : la.length < 4
      · rw [if_pos h2] at h; cases h
        exact .inr (.inr (.inl ⟨rfl, by simp [Pre.text], (fig_ne h1).2.2.1, t2, t3, by simp⟩))
      · rw [if_neg h2] at h; cases h
    · rw [if_neg h1] at h
      by_cases h2 : n = 44
      · rw [if_pos h2] at h
        by_cases h3 : la ≠ [] ∧ ps.length < 3
        · rw [if_pos h3] at h; cases h
          exact .inr (.inr (.inl ⟨rfl, by simp [Pre.text, partsText, h2], by omega, t2, t3, by simp⟩))
        · rw [if_neg h3] at h; cases h
      · rw [if_neg h2] at h
        by_cases h3 : n = 41 ∧ (la ≠ [] ∨ ps = [])
        · rw [if_pos h3] at h; cases h
          exact .inr (.inr (.inr ⟨g, ps, la, rfl, h3.1, h3.2, rfl, rfl⟩))
        · rw [if_neg h3] at h; cases h
theorem figs_all {l : List Nat} (h : figsOk l) : NumText.AllDigits l := fun x hx => by
  have := h.2 x hx
  unfold isFig at this
  simp at this
  exact this
/-- one thing told, as data -/
def Tk.data : Tk → PyData
  | .sign n => .tuple [.str (T [115, 105, 103, 110]), .str (T [n])]
  | .fin => .tuple [.str (T [101, 110, 100])]
  | .act w ns => .tuple [.str (T [100, 111]), .str (T [w]), .tuple (ns.map fun (n : Nat) => .int n)]
theorem isSmall_mem (n : Nat) : decide (n ∈ (T [97, 98, 99, 100, 101, 102, 103, 104, 105, 106, 107, 108, 109, 110, 111, 112, 113, 114, 115, 116, 117, 118, 119, 120, 121, 122]).cps.toList) = isSmall n := by
  rw [T_list, Bool.eq_iff_iff]
  simp only [decide_eq_true_eq, isSmall, Bool.and_eq_true, List.mem_cons, List.not_mem_nil, or_false]
  omega
theorem isFig_mem' (n : Nat) : decide (n ∈ ([48, 49, 50, 51, 52, 53, 54, 55, 56, 57] : List Nat)) = isFig n := by
  rw [Bool.eq_iff_iff]
  simp only [decide_eq_true_eq, isFig, Bool.and_eq_true, List.mem_cons, List.not_mem_nil, or_false]
  omega
theorem isSmall_mem' (n : Nat) : decide (n ∈ ([97, 98, 99, 100, 101, 102, 103, 104, 105, 106, 107, 108, 109, 110, 111, 112, 113, 114, 115, 116, 117, 118, 119, 120, 121, 122] : List Nat)) = isSmall n := by
  rw [Bool.eq_iff_iff]
  simp only [decide_eq_true_eq, isSmall, Bool.and_eq_true, List.mem_cons, List.not_mem_nil, or_false]
  omega
theorem isFig_mem (n : Nat) : decide (n ∈ (T [48, 49, 50, 51, 52, 53, 54, 55, 56, 57]).cps.toList) = isFig n := by
  rw [T_list, Bool.eq_iff_iff]
  simp only [decide_eq_true_eq, isFig, Bool.and_eq_true, List.mem_cons, List.not_mem_nil, or_false]
  omega
end Ss
/-! ## Reader: promises and readings -/
namespace Ss
open PySem PySem.Spec PyProof.Rows L2
open Ss in
local macro_rules | `(tactic| walk_at "fg") => `(tactic| first | with_reducible exact fsReader_g0 | with_reducible exact fsReader_g1)
open Ss in
local macro_rules | `(tactic| walk_at "r") => `(tactic| repeat (first
  | with_reducible refine x_seq ?_ | with_reducible refine x_asg ?_ | with_reducible refine x_var rfl ?_ | with_reducible refine x_c ?_ | with_reducible refine x_op ?_ | with_reducible refine x_name ?_ | with_reducible refine x_gcons ?_ | with_reducible refine x_gnil ?_
  | with_reducible refine x_cons ?_ | with_reducible refine x_nil ?_ | with_reducible refine x_cb ?_ | with_reducible refine x_ifs ?_ | with_reducible refine x_test ?_ | with_reducible refine x_bl ?_
  | with_reducible refine g_addNN ?_ | with_reducible refine g_addNL ?_ | with_reducible refine g_addLN ?_ | with_reducible refine l_addI ?_ | with_reducible refine l_subI ?_ | with_reducible refine g_ltNL ?_ | with_reducible refine l_ltI ?_ | with_reducible refine l_leI ?_ | with_reducible refine l_gtI ?_ | with_reducible refine l_geI ?_ | with_reducible refine l_eqX ?_ | with_reducible refine l_neX ?_ | with_reducible refine g_eqNL ?_ | with_reducible refine l_eqII ?_ | with_reducible refine l_neII ?_ | with_reducible refine l_eq rfl ?_ | with_reducible refine l_ne rfl ?_
  | with_reducible refine x_fld ?_ | with_reducible refine x_ret ?_ | with_reducible refine x_drop ?_ | with_reducible refine x_next ?_ | with_reducible refine x_tup ?_ | with_reducible refine x_lst ?_ | with_reducible refine x_f ?_ | with_reducible refine x_o ?_ | with_reducible refine x_n ?_
  | with_reducible refine x_bm ?_ | with_reducible refine x_bm0 ?_ | with_reducible refine x_m1 ?_ | with_reducible refine x_m0 ?_ | with_reducible refine x_isstr ?_ | with_reducible refine x_tystr ?_ | with_reducible refine x_sl ?_ | with_reducible refine x_part ?_ | with_reducible refine x_part' ?_ | with_reducible refine x_nopart ?_
  | with_reducible refine x_sfld ?_ | with_reducible refine x_if ?_ | with_reducible refine x_isty ?_ | with_reducible refine x_chain ?_ | with_reducible refine x_andV ?_ | with_reducible refine x_orV ?_ | with_reducible refine x_notV ?_ | with_reducible refine x_B ?_ | with_reducible refine x_and ?_ | with_reducible refine x_or ?_ | with_reducible refine x_not ?_ | with_reducible refine x_tru ?_ | with_reducible refine x_yes ?_
  | with_reducible refine x_un ?_ | with_reducible refine x_neg ?_ | with_reducible refine x_par ?_ | with_reducible refine x_par' ?_ | with_reducible refine x_retN ?_ | with_reducible refine x_brk ?_ | with_reducible refine x_cont ?_ | with_reducible refine x_rz ?_
  | with_reducible refine l_leS ?_ | with_reducible refine l_ltS ?_ | with_reducible refine l_inX ?_ | with_reducible refine l_niX ?_ | with_reducible refine l_inS ?_ | with_reducible refine l_niS ?_ | with_reducible refine l_count ?_ | with_reducible refine l_ord ?_ | with_reducible refine l_max ?_ | with_reducible refine l_min ?_ | with_reducible refine l_intI ?_ | with_reducible refine l_intB ?_ | with_reducible refine l_is ?_ | with_reducible refine l_isn ?_
  | with_reducible refine g_modNL (by decide) ?_ | with_reducible refine g_divNL (by decide) (by decide) ?_ | with_reducible refine l_modI (by decide) ?_ | with_reducible refine x_for ?_ | with_reducible refine x_lc ?_ | with_reducible refine x_ilist ?_ | with_reducible refine x_itup ?_ | with_reducible refine x_istr ?_ | with_reducible refine x_istr' ?_ | with_reducible refine x_irng1 ?_ | with_reducible refine x_irng2 ?_
  | (with_reducible refine x_get (by first | assumption | exact Hold.get0 (by assumption) | exact Hold.get1 (by assumption)) (by assumption) (by assumption) (by walk_at "fg") ?_)
  | (with_reducible refine x_ao (by first | assumption | exact Hold.get0 (by assumption) | exact Hold.get1 (by assumption)) (by kernel_rfl) ?_)))
/-- a reader as it lies: the signs begun, how many were lost -/
abbrev rdRaw (c : Ctx) (dx : Addr) (b : List Nat) (lost : Nat) : HO := .ins c.cReader dx (fsReader (.str (T b)) (.int lost))
abbrev rdO (c : Ctx) (dx : Addr) (r : Rdr) : HO := rdRaw c dx r.pre.text r.lost
/-- a list of things told is handed back, never to be written -/
abbrev RetToks (c : Ctx) (F : Hp) (L : List (Addr × HO)) (ts : List Tk) (Q : VK) : Prop := ∀ (r : Addr) (xs : List V) (F' H' : Hp), Same F F' → F' r = some (.lst xs) → DpAll c.K F' xs (ts.map Tk.data) → Hold F' L H' → Q (.ref r) H'
def sp_is_sign (c : Ctx) : Sp := fun vs H Q _ => ∃ n, vs = [.str (T [n])] ∧ Q (.bl (isSign n)) H
def okText : V → Bool
  | .str z => decide (z.length ≤ 4000) && z.cps.toList.all isSign
  | _ => false
/-- a text, or a thing that is none -/
def TextArg (c : Ctx) (H : Hp) (x : V) : Prop := (∃ l, x = .str (T l) ∧ l.length ≤ 1000000) ∨ ((∃ t, TyX c.K H x (.type t) ∧ kitB t "str" = some false) ∧ ∀ z, x ≠ .str z)
def sp_need_text (c : Ctx) : Sp := fun vs H Q E => ∃ x F L, vs = [x] ∧ TextArg c F x ∧ Hold F L H ∧
  (okText x = true → ∀ F' H', Same F F' → Hold F' L H' → Q .non H') ∧ (okText x = false → ∀ F' H', Same F F' → Hold F' L H' → E (.ref c.cBadText) none H')
def sp_Reader_init (c : Ctx) : Sp := fun vs H Q _ => ∃ a dx F L, vs = [.ref a] ∧ Hold F ((a, .ins c.cReader dx []) :: L) H ∧ ∀ H', Hold F ((a, rdO c dx Rdr.new) :: L) H' → Q .non H'
def sp_Reader_dropped (c : Ctx) : Sp := fun vs H Q _ => ∃ a dx b lost F L, vs = [.ref a] ∧ Hold F ((a, rdRaw c dx b lost) :: L) H ∧ Q (.int lost) H
def sp_Reader_left (c : Ctx) : Sp := fun vs H Q _ => ∃ a dx b lost F L, vs = [.ref a] ∧ Hold F ((a, rdRaw c dx b lost) :: L) H ∧ Q (.str (T b)) H
def sp_Reader_plain (c : Ctx) : Sp := fun vs H Q _ => ∃ a dx b lost n F L, vs = [.ref a, .str (T [n])] ∧ Hold F ((a, rdRaw c dx b lost) :: L) H ∧ RetToks c F ((a, rdRaw c dx (if n = 94 then [94] else b) lost) :: L) (plain n).2 Q
def sp_Reader_can_go_on (c : Ctx) : Sp := fun vs H Q _ => ∃ a dx p lost n F L, vs = [.ref a, .str (T [n])] ∧ Hold F ((a, rdRaw c dx (Pre.text p) lost) :: L) H ∧ p.Wf ∧ p ≠ .no ∧
  ∀ F' H', Same F F' → Hold F' ((a, rdRaw c dx p.text lost) :: L) H' → Q (.bl (p.step n).isSome) H'
def sp_Reader_whole (c : Ctx) : Sp := fun vs H Q _ => ∃ a dx p q ts lost n F L, vs = [.ref a] ∧ Hold F ((a, rdRaw c dx (Pre.text p ++ [n]) lost) :: L) H ∧ p.Wf ∧ p.step n = some (q, ts) ∧ RetToks c F ((a, rdRaw c dx q.text lost) :: L) ts Q
def sp_Reader_read (c : Ctx) : Sp := fun vs H Q _ => ∃ a dx r n F L, vs = [.ref a, .str (T [n])] ∧ Hold F ((a, rdO c dx r) :: L) H ∧ r.pre.Wf ∧ RetToks c F ((a, rdO c dx (r.read n).1) :: L) (r.read n).2 Q
def sp_Reader_feed (c : Ctx) : Sp := fun vs H Q E => ∃ a dx r x F L, vs = [.ref a, x] ∧ TextArg c F x ∧ Hold F ((a, rdO c dx r) :: L) H ∧ r.pre.Wf ∧
  (∀ l, x = .str (T l) → okText x = true → ∀ (p : Addr) xs F' H', Same F F' → DpAll c.K F' xs ((r.feed l).2.map Tk.data) → Hold F' ((p, .lst xs) :: (a, rdO c dx (r.feed l).1) :: L) H' → Q (.ref p) H') ∧
  (okText x = false → ∀ F' H', Same F F' → Hold F' ((a, rdO c dx r) :: L) H' → E (.ref c.cBadText) none H')
def sp_told (c : Ctx) : Sp := fun vs H Q E => ∃ x F L, vs = [x] ∧ TextArg c F x ∧ Hold F L H ∧
  (∀ l, x = .str (T l) → okText x = true → ∀ (p : Addr) xs F' H', Same F F' → DpAll c.K F' xs ((Rdr.new.feed l).2.map Tk.data) → Hold F' ((p, .lst xs) :: L) H' → Q (.ref p) H') ∧
  (okText x = false → ∀ F' H', Same F F' → Hold F' L H' → E (.ref c.cBadText) none H')
def t_is_sign (c : Ctx) (E : XK) : TS :=
  (tRet (tOrV (tOp (uEq c.K) (tVar 0) (tC (v_GAP c))) (tAndV (tChain uLe uLe (tC (.str ⟨#[32]⟩)) (tVar 0) (tC (.str ⟨#[126]⟩))) (tOp (uNe c.K) (tCB uOrd (tCons (tVar 0) tNil)) (tC (v_BARRED c))))))
abbrev N_is_sign : List Str := ["sign"]

def t_need_text (c : Ctx) (E : XK) : TS :=
  (tIfS (tOr (tNot (tB (tIsTy c.K (tVar 0) "str"))) (tOr (tTest (tOp uGt (tCB (uLen c.K) (tCons (tVar 0) tNil)) (tC (v_MOST_TEXT c)))) (tNot (tB (tCB (rAll c.K) (tCons (tLc (iStr (tVar 0)) (gName 1) tYes (tF (sp_is_sign c) E0 (tCons (tVar 1) tNil)) [1]) tNil)))))) (tRz c.cBadText E) tNext)
abbrev N_need_text : List Str := ["text", "sign"]

def t_Reader_init (c : Ctx) (E : XK) : TS :=
  (tSeq (sFld c.K (tVar 0) (tC (.str ⟨#[]⟩)) "begun")
  (sFld c.K (tVar 0) (tC (.int 0)) "lost"))
abbrev N_Reader_init : List Str := ["self"]

def t_Reader_dropped (c : Ctx) (E : XK) : TS :=
  (tRet (tFld c.K (tVar 0) "lost"))
abbrev N_Reader_dropped : List Str := ["self"]

def t_Reader_left (c : Ctx) (E : XK) : TS :=
  (tRet (tFld c.K (tVar 0) "begun"))
abbrev N_Reader_left : List Str := ["self"]

def t_Reader_plain (c : Ctx) (E : XK) : TS :=
  (tSeq (tIfS (tTest (tOp (uEq c.K) (tVar 1) (tC (.str ⟨#[94]⟩)))) (tSeq (sFld c.K (tVar 0) (tC (.str ⟨#[94]⟩)) "begun")
  (tRet (tLst tNil))) tNext)
  (tRet (tIf (tTest (tOp (uEq c.K) (tVar 1) (tC (v_GAP c)))) (tLst (tCons (tTup (tCons (tC (.str ⟨#[101, 110, 100]⟩)) tNil)) tNil)) (tLst (tCons (tTup (tCons (tC (.str ⟨#[115, 105, 103, 110]⟩)) (tCons (tVar 1) tNil))) tNil)))))
abbrev N_Reader_plain : List Str := ["self", "sign"]

def t_Reader_can_go_on (c : Ctx) (E : XK) : TS :=
  (tSeq (tIfS (tTest (tOp (uEq c.K) (tCB (uLen c.K) (tCons (tFld c.K (tVar 0) "begun") tNil)) (tC (.int 1)))) (tRet (tOp (uIn c.K) (tVar 1) (tOp (uAdd c.K) (tOp (uAdd c.K) (tC (v_SMALL c)) (tC (v_GREAT c))) (tC (.str ⟨#[94]⟩))))) tNext)
  (tSeq (tIfS (tTest (tOp (uEq c.K) (tCB (uLen c.K) (tCons (tFld c.K (tVar 0) "begun") tNil)) (tC (.int 2)))) (tRet (tOp (uEq c.K) (tVar 1) (tC (.str ⟨#[40]⟩)))) tNext)
  (tSeq (tAsg (tOp (uIx c.K) (tM1 u_split (tSl (uSl c.K) (tFld c.K (tVar 0) "begun") (tPart (tC (.int 3))) tNoPart) (tC (.str ⟨#[44]⟩))) (tUn (rU fun i => .int (-i)) (tC (.int 1)))) (gName 2))
  (tSeq (tIfS (tTest (tOp (uIn c.K) (tVar 1) (tC (v_FIGURES c)))) (tRet (tOp uLt (tCB (uLen c.K) (tCons (tVar 2) tNil)) (tC (v_MOST_FIGURES c)))) tNext)
  (tSeq (tIfS (tTest (tOp (uEq c.K) (tVar 1) (tC (.str ⟨#[44]⟩)))) (tRet (tAndV (tOp (uNe c.K) (tVar 2) (tC (.str ⟨#[]⟩))) (tOp uLt (tM1 u_count (tFld c.K (tVar 0) "begun") (tC (.str ⟨#[44]⟩))) (tOp uSub (tC (v_MOST_ARGUMENTS c)) (tC (.int 1)))))) tNext)
  (tRet (tAndV (tOp (uEq c.K) (tVar 1) (tC (.str ⟨#[41]⟩))) (tOrV (tOp (uNe c.K) (tVar 2) (tC (.str ⟨#[]⟩))) (tOp (uEq c.K) (tOp (uIx c.K) (tFld c.K (tVar 0) "begun") (tUn (rU fun i => .int (-i)) (tC (.int 1)))) (tC (.str ⟨#[40]⟩)))))))))))
abbrev N_Reader_can_go_on : List Str := ["self", "sign", "last"]

def t_Reader_whole (c : Ctx) (E : XK) : TS :=
  (tSeq (tAsg (tFld c.K (tVar 0) "begun") (gName 1))
  (tSeq (tIfS (tTest (tOp (uEq c.K) (tVar 1) (tC (.str ⟨#[94, 94]⟩)))) (tSeq (sFld c.K (tVar 0) (tC (.str ⟨#[]⟩)) "begun")
  (tRet (tLst (tCons (tTup (tCons (tC (.str ⟨#[115, 105, 103, 110]⟩)) (tCons (tC (.str ⟨#[94]⟩)) tNil))) tNil)))) tNext)
  (tSeq (tIfS (tAnd (tTest (tOp (uEq c.K) (tCB (uLen c.K) (tCons (tVar 1) tNil)) (tC (.int 2)))) (tTest (tOp (uIn c.K) (tOp (uIx c.K) (tVar 1) (tC (.int 1))) (tC (v_SMALL c))))) (tSeq (sFld c.K (tVar 0) (tC (.str ⟨#[]⟩)) "begun")
  (tRet (tLst (tCons (tTup (tCons (tC (.str ⟨#[100, 111]⟩)) (tCons (tOp (uIx c.K) (tVar 1) (tC (.int 1))) (tCons (tTup tNil) tNil)))) tNil)))) tNext)
  (tSeq (tIfS (tTest (tOp (uNe c.K) (tOp (uIx c.K) (tVar 1) (tUn (rU fun i => .int (-i)) (tC (.int 1)))) (tC (.str ⟨#[41]⟩)))) (tRet (tLst tNil)) tNext)
  (tSeq (sFld c.K (tVar 0) (tC (.str ⟨#[]⟩)) "begun")
  (tSeq (tAsg (tSl (uSl c.K) (tVar 1) (tPart (tC (.int 3))) (tPart (tUn (rU fun i => .int (-i)) (tC (.int 1))))) (gName 2))
  (tRet (tLst (tCons (tTup (tCons (tC (.str ⟨#[100, 111]⟩)) (tCons (tOp (uIx c.K) (tVar 1) (tC (.int 1))) (tCons (tIf (tTest (tOp (uNe c.K) (tVar 2) (tC (.str ⟨#[]⟩)))) (tCB (uTuple c.K) (tCons (tLc (iList c.K (tM1 u_split (tVar 2) (tC (.str ⟨#[44]⟩)))) (gName 3) tYes (tCB uInt (tCons (tVar 3) tNil)) [3]) tNil)) (tTup tNil)) tNil)))) tNil)))))))))
abbrev N_Reader_whole : List Str := ["self", "word", "rest", "one"]

def t_Reader_read (c : Ctx) (E : XK) : TS :=
  (tSeq (tIfS (tTest (tOp (uEq c.K) (tFld c.K (tVar 0) "begun") (tC (.str ⟨#[]⟩)))) (tRet (tO c.cReader "plain" (sp_Reader_plain c) E0 (tVar 0) (tCons (tVar 1) tNil))) tNext)
  (tSeq (tIfS (tB (tO c.cReader "can_go_on" (sp_Reader_can_go_on c) E0 (tVar 0) (tCons (tVar 1) tNil))) (tSeq (sFld c.K (tVar 0) (tOp (uAdd c.K) (tFld c.K (tVar 0) "begun") (tVar 1)) "begun")
  (tRet (tO c.cReader "whole" (sp_Reader_whole c) E0 (tVar 0) tNil))) tNext)
  (tSeq (sFld c.K (tVar 0) (tOp (uAdd c.K) (tFld c.K (tVar 0) "lost") (tCB (uLen c.K) (tCons (tFld c.K (tVar 0) "begun") tNil))) "lost")
  (tSeq (sFld c.K (tVar 0) (tC (.str ⟨#[]⟩)) "begun")
  (tRet (tO c.cReader "plain" (sp_Reader_plain c) E0 (tVar 0) (tCons (tVar 1) tNil)))))))
abbrev N_Reader_read : List Str := ["self", "sign"]

def t_Reader_feed (c : Ctx) (E : XK) : TS :=
  (tSeq (tDrop (tF (sp_need_text c) E (tCons (tVar 1) tNil)))
  (tSeq (tAsg (tLst tNil) (gName 2))
  (tSeq (tFor (iStr (tVar 1)) (gName 3) (tDrop (tBM c.K "list" rExtend (tVar 2) (tCons (tO c.cReader "read" (sp_Reader_read c) E0 (tVar 0) (tCons (tVar 3) tNil)) tNil))))
  (tRet (tVar 2)))))
abbrev N_Reader_feed : List Str := ["self", "text", "found", "sign"]

def t_told (c : Ctx) (E : XK) : TS :=
  (tRet (tO c.cReader "feed" (sp_Reader_feed c) E (tN c.cReader (sp_Reader_init c) E0 tNil) (tCons (tVar 0) tNil)))
abbrev N_told : List Str := ["text"]

section
variable {c : Ctx}
theorem rd_is_sign : RD N_is_sign (t_is_sign c) (sp_is_sign c) := by
  rintro vs H Q E ⟨n, rfl, k⟩
  unfold t_is_sign
  walk_at "r"
  refine wD (fun h => ?_) (fun h => ?_)
  · have e : n = 10 := one1.mp h
    subst e; exact k
  · have e : n ≠ 10 := fun z => h (one1.mpr z)
    walk_at "r"
    have e1 : (!decide ((T [n]).cps.toList < ([32] : List Nat))) = decide (32 ≤ n) := by
      rw [T_list, lt1, Bool.eq_iff_iff]; simp
    have e2 : (!decide (([126] : List Nat) < (T [n]).cps.toList)) = decide (n ≤ 126) := by
      rw [T_list, lt1, Bool.eq_iff_iff]; simp
    have ek : ∀ b1 b2 b3 : Bool, (n == 10) = false := fun _ _ _ => by simpa using e
    refine w2 (fun h1 => ?_) (fun h1 => ?_)
    · walk_at "r"
      refine w2 (fun h2 => ?_) (fun h2 => ?_)
      · walk_at "r"
        have z : isSign n = !decide (((n : Nat) : Int) = 37) := by
          have a1 : decide (32 ≤ n) = true := e1.symm.trans h1
          have a2 : decide (n ≤ 126) = true := e2.symm.trans h2
          have a3 : decide (((n : Nat) : Int) = 37) = (n == 37) := by
            rw [Bool.eq_iff_iff]; simp; omega
          rw [a3]
          unfold isSign
          rw [a1, a2, ek true true true]
          simp [bne]
        rw [z] at k
        exact k
      · have a2 : decide (n ≤ 126) = false := e2.symm.trans h2
        have z : isSign n = false := by unfold isSign; rw [a2, ek true true true]; simp
        rw [z] at k; exact k
    · have a1 : decide (32 ≤ n) = false := e1.symm.trans h1
      walk_at "r"
      refine wF rfl ?_
      have z : isSign n = false := by unfold isSign; rw [a1, ek true true true]; simp
      rw [z] at k; exact k
theorem rd_Reader_init (R : FReader c) : RD N_Reader_init (t_Reader_init c) (sp_Reader_init c) := by
  obtain ⟨cl, n1, n2⟩ := R
  rintro vs H Q E ⟨a, dx, F, L, rfl, W, k⟩
  unfold t_Reader_init
  walk_at "r"
  refine x_put0 W cl n1 (by show 0 < 1000; decide) rfl fun H1 W1 => ?_
  walk_at "r"
  exact x_put0 W1 cl n2 (by show 1 < 1000; decide) (by kernel_rfl) fun H2 W2 => k _ W2
theorem rd_Reader_dropped (R : FReader c) : RD N_Reader_dropped (t_Reader_dropped c) (sp_Reader_dropped c) := by
  obtain ⟨cl, n1, n2⟩ := R
  rintro vs H Q E ⟨a, dx, b, lost, F, L, rfl, W, k⟩
  unfold t_Reader_dropped
  walk_at "r"
  exact k
theorem rd_Reader_left (R : FReader c) : RD N_Reader_left (t_Reader_left c) (sp_Reader_left c) := by
  obtain ⟨cl, n1, n2⟩ := R
  rintro vs H Q E ⟨a, dx, b, lost, F, L, rfl, W, k⟩
  unfold t_Reader_left
  walk_at "r"
  exact k
theorem rd_Reader_plain (R : FReader c) : RD N_Reader_plain (t_Reader_plain c) (sp_Reader_plain c) := by
  obtain ⟨cl, n1, n2⟩ := R
  rintro vs H Q E ⟨a, dx, b, lost, n, F, L, rfl, W, k⟩
  unfold t_Reader_plain
  walk_at "r"
  refine wD (fun h => ?_) (fun h => ?_)
  · have e : n = 94 := one1.mp h
    walk_at "r"
    refine x_put0 W cl n1 fsReader_len fsReader_p0 fun H1 W1 => ?_
    walk_at "r"
    refine n_lstF W1 (sz rfl) fun p F' H' s h' W' => ?_
    subst e
    exact k p [] F' H' s h' .nil W'
  · have e : n ≠ 94 := fun z => h (one1.mpr z)
    rw [if_neg e] at k
    walk_at "r"
    refine wD (fun h1 => ?_) (fun h1 => ?_)
    · have e1 : n = 10 := one1.mp h1
      subst e1
      walk_at "r"
      refine n_tupF W (sz rfl) fun p1 F1 H1 s1 h1 W1 => ?_
      refine n_lstF W1 (sz rfl) fun p F' H' s h' W' => ?_
      refine k p _ F' H' (s1.trans s) h' (.cons (.tup (st_of (s _ _ h1)) (.cons (.str _) .nil)) .nil) W'
    · have e1 : n ≠ 10 := fun z => h1 (one1.mpr z)
      walk_at "r"
      refine n_tupF W (sz rfl) fun p1 F1 H1 s1 h1 W1 => ?_
      refine n_lstF W1 (sz rfl) fun p F' H' s h' W' => ?_
      unfold plain at k
      rw [if_neg e, if_neg e1] at k
      refine k p _ F' H' (s1.trans s) h' (.cons (.tup (st_of (s _ _ h1)) (.cons (.str _) (.cons (.str _) .nil))) .nil) W'
theorem rd_Reader_can_go_on (R : FReader c) : RD N_Reader_can_go_on (t_Reader_can_go_on c) (sp_Reader_can_go_on c) := by
  obtain ⟨cl, n1, n2⟩ := R
  rintro vs H Q E ⟨a, dx, p, lost, n, F, L, rfl, W, wf, hne, k⟩
  have hlen := text_len wf
  unfold t_Reader_can_go_on
  walk_at "r"
  refine l_lenX (by omega) ?_
  walk_at "r"
  cases p with
  | no => exact absurd rfl hne
  | hat =>
    refine wT rfl ?_
    walk_at "r"
    refine l_addX (by decide) ?_
    walk_at "r"
    refine l_addX (by decide) ?_
    walk_at "r"
    have e : decide (n ∈ ([97, 98, 99, 100, 101, 102, 103, 104, 105, 106, 107, 108, 109, 110, 111, 112, 113, 114, 115, 116, 117, 118, 119, 120, 121, 122] ++ [65, 66, 67, 68, 69, 70, 71, 72, 73, 74, 75, 76, 77, 78, 79, 80, 81, 82, 83, 84, 85, 86, 87, 88, 89, 90] ++ [94] : List Nat)) = (Pre.hat.step n).isSome := by
      unfold Pre.step
      dsimp only
      rw [Bool.eq_iff_iff]
      simp only [decide_eq_true_eq, List.cons_append, List.nil_append, List.mem_cons, List.not_mem_nil, or_false]
      by_cases h1 : n = 94
      · subst h1; simp
      · rw [if_neg h1]
        by_cases h2 : isSmall n = true
        · rw [if_pos h2]
          unfold isSmall at h2
          simp at h2
          simp
          omega
        · rw [if_neg h2]
          by_cases h3 : isGreat n = true
          · rw [if_pos h3]
            unfold isGreat at h3
            simp at h3
            simp
            omega
          · rw [if_neg h3]
            unfold isSmall at h2
            unfold isGreat at h3
            simp at h2 h3
            simp
            omega
    rw [e]
    exact k F H (Same.refl F) W
  | cap g =>
    refine wF rfl ?_
    walk_at "r"
    refine l_lenX (by omega) ?_
    walk_at "r"
    refine wT rfl ?_
    walk_at "r"
    have e : decide (([n] : List Nat) = [40]) = ((Pre.cap g).step n).isSome := by
      unfold Pre.step
      dsimp only
      by_cases h1 : n = 40
      · subst h1; simp
      · rw [if_neg h1]; simp [h1]
    rw [e]
    exact k F H (Same.refl F) W
  | op g ps la =>
    obtain ⟨w1, w2', w3, w4⟩ := id wf
    have hl3 : 3 ≤ (Pre.op g ps la).text.length := by simp [Pre.text]
    refine wF (decide_eq_false (by omega)) ?_
    walk_at "r"
    refine l_lenX (by omega) ?_
    walk_at "r"
    refine wF (decide_eq_false (by omega)) ?_
    walk_at "r"
    refine l_slX (by omega) ?_
    walk_at "r"
    have e1 : cutL (Pre.op g ps la).text (some 3) none = TL.joinL [44] (ps ++ [la]) := by
      rw [joinL_parts]
      exact cutL_from (Pre.op g ps la).text 3
    rw [e1]
    have hjl : (TL.joinL [44] (ps ++ [la])).length ≤ 100 := by
      rw [joinL_parts, List.length_append]
      have := parts_len w3
      have := w4.1
      omega
    refine l_split W (by decide) (by omega) (by simp) (fun q hq => ?_) fun r1 F1 H1 s1 h1 W1 => ?_
    · rcases List.mem_append.mp hq with hq | hq
      · exact fig_free (w3 q hq).2
      · rw [List.mem_singleton.mp hq]; exact fig_free w4
    walk_at "r"
    rw [List.map_append, List.map_cons, List.map_nil] at h1
    refine l_ixL (sq_of (W1.old _ _ h1)) atI_last ?_
    walk_at "r"
    rw [isFig_mem']
    refine w2 (fun hf => ?_) (fun hf => ?_)
    · walk_at "r"
      refine l_lenX (by have := w4.1; omega) ?_
      walk_at "r"
      have e : decide (la.length < 4) = ((Pre.op g ps la).step n).isSome := by
        unfold Pre.step
        dsimp only
        rw [if_pos hf]
        by_cases h : la.length < 4
        · rw [if_pos h]; simp; first | done | omega
        · rw [if_neg h]; simp; first | done | omega
      rw [e]
      exact k F1 H1 s1 W1
    · have hf' : ¬ isFig n = true := by rw [hf]; decide
      walk_at "r"
      refine wD (fun hc => ?_) (fun hc => ?_)
      · have hn : n = 44 := one1.mp hc
        walk_at "r"
        have e : ∀ b : Bool, b = decide (la ≠ [] ∧ ps.length < 3) → b = ((Pre.op g ps la).step n).isSome := by
          intro b hb
          unfold Pre.step
          dsimp only
          rw [if_neg hf', if_pos hn, hb]
          by_cases h : la ≠ [] ∧ ps.length < 3
          · rw [if_pos h, decide_eq_true h]; rfl
          · rw [if_neg h, decide_eq_false h]; rfl
        refine wN (fun h => ?_) (fun h => ?_)
        · walk_at "r"
          have ec : cnt 44 (Pre.op g ps la).text = ps.length := by
            show cnt 44 ([94, g, 40] ++ (partsText ps ++ la)) = _
            rw [cnt_append, cnt_append, cnt_parts w3, cnt_none 44 la (fig_free w4)]
            have : cnt 44 [94, g, 40] = 0 := cnt_none 44 _ (by
              unfold isGreat at w1
              simp at w1
              simp; omega)
            rw [this]; omega
          rw [ec]
          rw [e (decide ((ps.length : Int) < 4 - 1)) (by rw [Bool.eq_iff_iff]; simp [h]; omega)]
          exact k F1 H1 s1 W1
        · have z := e false (by simp [h])
          rw [z]
          exact k F1 H1 s1 W1
      · have hn : n ≠ 44 := fun z => hc (one1.mpr z)
        walk_at "r"
        have e : ∀ b : Bool, b = decide (n = 41 ∧ (la ≠ [] ∨ ps = [])) → b = ((Pre.op g ps la).step n).isSome := by
          intro b hb
          unfold Pre.step
          dsimp only
          rw [if_neg hf', if_neg hn, hb]
          by_cases h : n = 41 ∧ (la ≠ [] ∨ ps = [])
          · rw [if_pos h, decide_eq_true h]; rfl
          · rw [if_neg h, decide_eq_false h]; rfl
        refine wD (fun h => ?_) (fun h => ?_)
        · have h41 : n = 41 := one1.mp h
          walk_at "r"
          refine wN (fun h => ?_) (fun h => ?_)
          · rw [e true (by simp [h41, h])]
            exact k F1 H1 s1 W1
          · walk_at "r"
            have hla : la = [] := h
            cases ps with
            | nil =>
              refine l_ixX (n := 40) (by omega) (by rw [hla]; show atI ([94, g] ++ [40]) (-1) = _; exact atI_last) ?_
              walk_at "r"
              have z := e true (by simp [h41])
              have z2 : decide (([40] : List Nat) = [40]) = true := rfl
              rw [z2, z]
              exact k F1 H1 s1 W1
            | cons q qs =>
              obtain ⟨ini, he⟩ : ∃ ini, (Pre.op g (q :: qs) la).text = ini ++ [44] := by
                rw [hla]
                have : ∀ (ps : List (List Nat)), ps ≠ [] → ∃ i, partsText ps = i ++ [44] := by
                  intro ps hp
                  obtain ⟨pi, pl, rfl⟩ : ∃ pi pl, ps = pi ++ [pl] := ⟨ps.dropLast, ps.getLast hp, (List.dropLast_concat_getLast hp).symm⟩
                  exact ⟨partsText pi ++ pl, by simp [partsText]⟩
                obtain ⟨i, hi⟩ := this (q :: qs) (by simp)
                exact ⟨[94, g, 40] ++ i, by simp [Pre.text, hi]⟩
              refine l_ixX (n := 44) (by omega) (by rw [he]; exact atI_last) ?_
              walk_at "r"
              have z := e false (by simp [h41, hla])
              have z2 : decide (([44] : List Nat) = [40]) = false := by decide
              rw [z2, z]
              exact k F1 H1 s1 W1
        · have z := e false (by
            have : n ≠ 41 := fun z => h (one1.mpr z)
            simp [this])
          rw [z]
          exact k F1 H1 s1 W1
theorem rd_Reader_whole (R : FReader c) : RD N_Reader_whole (t_Reader_whole c) (sp_Reader_whole c) := by
  obtain ⟨cl, n1, n2⟩ := R
  rintro vs H Q E ⟨a, dx, p, q, ts, lost, n, F, L, rfl, W, wf, hs, k⟩
  have hlen := text_len wf
  have hl1 : (p.text ++ [n]).length = p.text.length + 1 := by simp
  unfold t_Reader_whole
  walk_at "r"
  rcases step_cases wf hs with ⟨rfl, rfl, rfl, rfl⟩ | ⟨rfl, h94, hsm, rfl, rfl⟩ | ⟨rfl, hq, h41, h2, h3, h4⟩ | ⟨g, ps, la, rfl, rfl, hla, rfl, rfl⟩
  · refine wT (decide_eq_true rfl) ?_
    walk_at "r"
    refine x_put0 W cl n1 fsReader_len fsReader_p0 fun H1 W1 => ?_
    walk_at "r"
    refine n_tupF W1 (sz rfl) fun p1 F1 H1 s1 h1 W1 => ?_
    refine n_lstF W1 (sz rfl) fun p F' H' s h' W' => ?_
    exact k p _ F' H' (s1.trans s) h' (.cons (.tup (st_of (s _ _ h1)) (.cons (.str _) (.cons (.str _) .nil))) .nil) W'
  · refine wF (decide_eq_false (by simp [Pre.text, h94])) ?_
    walk_at "r"
    refine l_lenX (by omega) ?_
    walk_at "r"
    refine wT (decide_eq_true (by rw [hl1]; rfl)) ?_
    walk_at "r"
    refine l_ixX (n := n) (i := 1) (by omega) rfl ?_
    walk_at "r"
    rw [isSmall_mem']
    refine wT hsm ?_
    walk_at "r"
    refine x_put0 W cl n1 fsReader_len fsReader_p0 fun H1 W1 => ?_
    walk_at "r"
    refine l_ixX (n := n) (i := 1) (by omega) rfl ?_
    walk_at "r"
    refine n_tupF W1 (sz rfl) fun p0 F0 H0 s0 h0 W0 => ?_
    walk_at "r"
    refine n_tupF W0 (sz rfl) fun p1 F1 H1 s1 h1 W1 => ?_
    refine n_lstF W1 (sz rfl) fun p F' H' s h' W' => ?_
    exact k p _ F' H' ((s0.trans s1).trans s) h' (.cons (.tup (st_of (s _ _ h1)) (.cons (.str _) (.cons (.str _) (.cons (.tup (st_of ((s1.trans s) _ _ h0)) .nil) .nil)))) .nil) W'
  · refine wF (decide_eq_false h2) ?_
    walk_at "r"
    refine l_lenX (by omega) ?_
    walk_at "r"
    have hrest : ∀ {nx bk ct : L2.St → Hp → Prop} {u : TS}, tSeq (tIfS (tTest (tOp (uNe c.K) (tOp (uIx c.K) (tVar 1) (tUn (rU fun i => .int (-i)) (tC (.int 1)))) (tC (.str ⟨#[41]⟩)))) (tRet (tLst tNil)) tNext) u ⟨nx, Q, bk, ct⟩ ((L2.start N_Reader_whole [V.ref a]).set 1 (some (.str (T (p.text ++ [n]))))) H := by
      intro nx bk ct u
      walk_at "r"
      refine l_ixX (by omega) (atI_last (v := n)) ?_
      walk_at "r"
      refine wT (by simp [h41]) ?_
      walk_at "r"
      refine n_lstF W (sz rfl) fun p F' H' s h' W' => ?_
      rw [hq] at k
      exact k p [] F' H' s h' .nil W'
    refine wD (fun z => ?_) (fun z => ?_)
    · have z1 : p.text.length = 1 := by rw [hl1] at z; omega
      walk_at "r"
      refine l_ixX (n := n) (i := 1) (by omega) (by show atI _ ((1 : Nat) : Int) = _; exact atI_nat (by rw [List.getElem?_append_right (by omega), z1]; rfl)) ?_
      walk_at "r"
      rw [isSmall_mem']
      refine wF (by simpa [z1] using h3) ?_
      with_reducible refine x_next ?_
      exact hrest
    · with_reducible refine wF rfl ?_
      with_reducible refine x_next ?_
      exact hrest
  · obtain ⟨w1, w2', w3, w4⟩ := id wf
    have hl3 : 3 ≤ (Pre.op g ps la).text.length := by simp [Pre.text]
    refine wF (decide_eq_false (fun e => by have := congrArg List.length e; simp [Pre.text] at this)) ?_
    walk_at "r"
    refine l_lenX (by omega) ?_
    walk_at "r"
    refine wF (decide_eq_false (by omega)) ?_
    walk_at "r"
    refine wF rfl ?_
    walk_at "r"
    refine l_ixX (by omega) (atI_last (v := 41)) ?_
    walk_at "r"
    refine wF rfl ?_
    walk_at "r"
    refine x_put0 W cl n1 fsReader_len fsReader_p0 fun H1 W1 => ?_
    walk_at "r"
    refine l_slX (by omega) ?_
    have e1 : cutL ((Pre.op g ps la).text ++ [41]) (some 3) (some (-1)) = TL.joinL [44] (ps ++ [la]) := by
      rw [joinL_parts]
      refine (cutL_last _ 3).trans ?_
      rw [hl1]
      show List.take _ (partsText ps ++ la ++ [41]) = _
      have : (Pre.op g ps la).text.length + 1 - 1 - 3 = (partsText ps ++ la).length := by simp [Pre.text]
      rw [this, List.take_left]
    rw [e1]
    walk_at "r"
    have hjl : (TL.joinL [44] (ps ++ [la])).length ≤ 100 := by
      rw [joinL_parts, List.length_append]
      have := parts_len w3
      have := w4.1
      omega
    refine l_ixX (n := g) (i := 1) (by omega) (by show atI _ ((1 : Nat) : Int) = _; exact atI_nat rfl) ?_
    walk_at "r"
    have hempty : TL.joinL [44] (ps ++ [la]) = [] ↔ ps = [] ∧ la = [] := by
      rw [joinL_parts]
      cases ps <;> simp [partsText]
    refine wN (fun hne => ?_) (fun he => ?_)
    · have hne2 : ¬ (ps = [] ∧ la = []) := fun z => hne (hempty.mpr z)
      rw [if_neg hne2] at k
      walk_at "r"
      refine l_split W1 (by decide) (by omega) (by simp) (fun q hq => ?_) fun r1 F1 H1 s1 h1 W1 => ?_
      · rcases List.mem_append.mp hq with hq | hq
        · exact fig_free (w3 q hq).2
        · rw [List.mem_singleton.mp hq]; exact fig_free w4
      have hparts : ∀ q ∈ ps ++ [la], q ≠ [] ∧ figsOk q := fun q hq => by
        rcases List.mem_append.mp hq with hq | hq
        · exact w3 q hq
        · rw [List.mem_singleton.mp hq]
          refine ⟨fun z => ?_, w4⟩
          rcases hla with h | h
          · exact h z
          · exact hne2 ⟨h, z⟩
      have hplen : (ps ++ [la]).length ≤ 4 := by rw [List.length_append]; simp; omega
      refine x_ilist' (sq_of (W1.old _ _ h1)) ?_
      refine x_lcOk (F := F1) (ItOk.list (sq_of h1)) W1 (by simp; omega) (fun i v _ => v = .int ((NumText.digitsVal ((ps ++ [la]).getD i []) : Nat) : Int)) (fun _ _ _ _ _ h => h) (fun d i F' H' QQ hi s W' kk => ?_) gm_name (fun D ys F' H' s hlen' hv W' => ?_)
      · have hi' : i < (ps ++ [la]).length := by simpa using hi
        have hg : ((ps ++ [la]).map fun p => V.str (T p)).getD i .non = .str (T ((ps ++ [la]).getD i [])) := by
          rw [List.getD_eq_getElem?_getD, List.getD_eq_getElem?_getD, List.getElem?_map, List.getElem?_eq_getElem hi']; rfl
        have hm : (ps ++ [la]).getD i [] ∈ ps ++ [la] := by
          rw [List.getD_eq_getElem?_getD, List.getElem?_eq_getElem hi']; exact List.getElem_mem hi'
        obtain ⟨o1, o2⟩ := hparts _ hm
        show (fun σ2 H2 => wipe σ2 [3] = _ ∧ _) (List.set _ 3 (some (((ps ++ [la]).map fun p => V.str (T p)).getD i .non))) H'
        rw [hg]
        refine ⟨wipe1, ?_⟩
        walk_at "r"
        refine l_intS (i := ((NumText.digitsVal ((ps ++ [la]).getD i []) : Nat) : Int)) ?_ ?_ (kk _ F' H' (Same.refl F') W' rfl)
        · have z := intText_digits (x := T ((ps ++ [la]).getD i [])) (by rw [T_list]; exact figs_all o2) (by rw [T_list]; exact o1) (by rw [T_len]; have := o2.1; omega)
          rw [T_list] at z; exact z
        · rw [T_len]; have := o2.1; omega
      · walk_at "r"
        have ey : ys = ((ps ++ [la]).map NumText.digitsVal).map fun (n : Nat) => V.int n := by
          refine List.ext_getElem? fun j => ?_
          by_cases hj : j < (ps ++ [la]).length
          · have a1 := hv j (by simpa using hj)
            have hjy : j < ys.length := by rw [hlen']; simpa using hj
            rw [List.getD_eq_getElem?_getD, List.getElem?_eq_getElem hjy] at a1
            rw [List.getElem?_eq_getElem hjy, List.getElem?_map, List.getElem?_map, List.getElem?_eq_getElem hj]
            rw [List.getD_eq_getElem?_getD, List.getElem?_eq_getElem hj] at a1
            exact congrArg some a1
          · rw [List.getElem?_eq_none (by rw [hlen']; simpa using hj), List.getElem?_eq_none (by simpa using hj)]
        refine n_tupleF W'.drop (sq_of W'.get0) fun r2 F2 H2 s2 h2 W2 => ?_
        walk_at "r"
        refine n_tupF W2 (sz rfl) fun p3 F3 H3 s3 h3 W3 => ?_
        refine n_lstF W3 (sz rfl) fun p4 F4 H4 s4 h4 W4 => ?_
        refine k p4 _ F4 H4 (((s1.trans s).trans s2).trans (s3.trans s4)) h4 (.cons (.tup (st_of (s4 _ _ h3)) (.cons (.str _) (.cons (.str _) (.cons (.tup (st_of (s4 _ _ (s3 _ _ h2))) ?_) .nil)))) .nil) W4
        rw [ey]
        exact dp_ints _
    · have he2 := hempty.mp he
      rw [if_pos he2] at k
      walk_at "r"
      refine n_tupF W1 (sz rfl) fun p0 F0 H0 s0 h0 W0 => ?_
      walk_at "r"
      refine n_tupF W0 (sz rfl) fun p1 F1 H1 s1 h1 W1 => ?_
      refine n_lstF W1 (sz rfl) fun p F' H' s h' W' => ?_
      exact k p _ F' H' ((s0.trans s1).trans s) h' (.cons (.tup (st_of (s _ _ h1)) (.cons (.str _) (.cons (.str _) (.cons (.tup (st_of ((s1.trans s) _ _ h0)) .nil) .nil)))) .nil) W'
theorem rd_Reader_read (R : FReader c) : RD N_Reader_read (t_Reader_read c) (sp_Reader_read c) := by
  obtain ⟨cl, n1, n2⟩ := R
  rintro vs H Q E ⟨a, dx, r, n, F, L, rfl, W, wf, k⟩
  have hlen := text_len wf
  unfold t_Reader_read
  walk_at "r"
  refine wD (fun h => ?_) (fun h => ?_)
  · have hp : r.pre = .no := text_no.mp h
    have e : r.read n = (⟨(plain n).1, r.lost⟩, (plain n).2) := by unfold Rdr.read; rw [if_pos hp]
    rw [e] at k
    walk_at "r"
    refine ⟨a, dx, _, _, n, F, L, rfl, W, fun r1 xs F' H' s h1 h2 W' => k r1 xs F' H' s h1 h2 ?_⟩
    have e2 : (if n = 94 then [94] else r.pre.text) = (plain n).1.text := by
      unfold plain
      by_cases h94 : n = 94
      · rw [if_pos h94, if_pos h94]; rfl
      · rw [if_neg h94, if_neg h94, hp]; split <;> rfl
    rw [e2] at W'
    exact W'
  · have hp : r.pre ≠ .no := fun z => h (text_no.mpr z)
    walk_at "r"
    refine ⟨a, dx, r.pre, _, n, F, L, rfl, W, wf, hp, fun F1 H1 s1 W1 => ?_⟩
    walk_at "r"
    cases hst : r.pre.step n with
    | some qt =>
      obtain ⟨q, ts⟩ := qt
      have e : r.read n = (⟨q, r.lost⟩, ts) := by unfold Rdr.read; rw [if_neg hp, hst]
      rw [e] at k
      refine wT rfl ?_
      walk_at "r"
      refine l_addX (by simp; omega) ?_
      walk_at "r"
      refine x_put0 W1 cl n1 fsReader_len fsReader_p0 fun H2 W2 => ?_
      walk_at "r"
      exact ⟨a, dx, r.pre, q, ts, _, n, F1, L, rfl, W2, wf, hst, fun r1 xs F' H' s h1 h2 W' => k r1 xs F' H' (s1.trans s) h1 h2 W'⟩
    | none =>
      have e : r.read n = (⟨(plain n).1, r.lost + r.pre.text.length⟩, (plain n).2) := by unfold Rdr.read; rw [if_neg hp, hst]
      rw [e] at k
      refine wF rfl ?_
      walk_at "r"
      refine l_lenX (by omega) ?_
      walk_at "r"
      refine x_put0 W1 cl n2 fsReader_len fsReader_p1 fun H2 W2 => ?_
      walk_at "r"
      refine x_put0 W2 cl n1 fsReader_len fsReader_p0 fun H3 W3 => ?_
      walk_at "r"
      refine ⟨a, dx, [], _, n, F1, L, rfl, W3, fun r1 xs F' H' s h1 h2 W' => k r1 xs F' H' (s1.trans s) h1 h2 ?_⟩
      have e2 : (if n = 94 then [94] else ([] : List Nat)) = (plain n).1.text := by
        unfold plain
        by_cases h94 : n = 94
        · rw [if_pos h94, if_pos h94]; rfl
        · rw [if_neg h94, if_neg h94]; split <;> rfl
      rw [e2] at W'
      exact W'
theorem okText_T (l : List Nat) : okText (.str (T l)) = (decide (l.length ≤ 4000) && l.all isSign) := by
  show (decide ((T l).length ≤ 4000) && (T l).cps.toList.all isSign) = _
  rw [T_len, T_list]
theorem ty_str {K : PySem.W.Frag} {H : Hp} (z : Str) : TyX K H (.str z) (.type "str") := .base (.str z)
theorem rd_need_text : RD N_need_text (t_need_text c) (sp_need_text c) := by
  rintro vs H Q E ⟨x, F, L, rfl, ta, W, k1, k2⟩
  unfold t_need_text
  walk_at "r"
  rcases ta with ⟨l, rfl, hl⟩ | ⟨⟨t, ht, hk⟩, hx⟩
  · refine l_isTy (ty_str _) (by decide +kernel : kitB "str" "str" = some true) ?_
    walk_at "r"
    refine wF rfl ?_
    walk_at "r"
    refine l_lenX hl ?_
    walk_at "r"
    rw [okText_T] at k1 k2
    refine wD (fun h => ?_) (fun h => ?_)
    · have hn : ¬ l.length ≤ 4000 := by omega
      refine wT rfl ?_
      walk_at "r"
      exact k2 (by rw [decide_eq_false hn]; rfl) F H (Same.refl F) W
    · have hn : l.length ≤ 4000 := by omega
      rw [decide_eq_true hn, Bool.true_and] at k1 k2
      walk_at "r"
      refine x_lcOk (F := F) (ItOk.str l) W (by omega) (fun i v _ => v = .bl (isSign (l.getD i 0))) (fun _ _ _ _ _ h => h) (fun d i F' H' QQ hi s W' kk => ?_) gm_name (fun D ys F' H' s hlen' hv W' => ?_)
      · refine ⟨wipe1, ?_⟩
        walk_at "r"
        exact ⟨_, rfl, kk _ F' H' (Same.refl F') W' rfl⟩
      · walk_at "r"
        have ey : ys = (l.map isSign).map V.bl := by
          refine List.ext_getElem? fun j => ?_
          by_cases hj : j < l.length
          · have a1 := hv j hj
            have hjy : j < ys.length := by rw [hlen']; exact hj
            rw [List.getD_eq_getElem?_getD, List.getElem?_eq_getElem hjy, List.getD_eq_getElem?_getD, List.getElem?_eq_getElem hj] at a1
            rw [List.getElem?_eq_getElem hjy, List.getElem?_map, List.getElem?_map, List.getElem?_eq_getElem hj]
            exact congrArg some a1
          · rw [List.getElem?_eq_none (by omega), List.getElem?_eq_none (by simpa using hj)]
        rw [ey] at W'
        refine ⟨D, l.map isSign, rfl, sq_of W'.get0, ?_⟩
        walk_at "r"
        have e : (l.map isSign).all id = l.all isSign := by rw [List.all_map]; rfl
        rw [e]
        cases hall : l.all isSign with
        | true =>
          refine wF rfl ?_
          walk_at "r"
          exact k1 hall F' H' s W'.drop
        | false =>
          refine wT rfl ?_
          walk_at "r"
          exact k2 hall F' H' s W'.drop
  · refine l_isTy (tyX_gr W.gr ht) hk ?_
    walk_at "r"
    refine wT rfl ?_
    refine wT rfl ?_
    walk_at "r"
    refine k2 ?_ F H (Same.refl F) W
    cases x with
    | str z => exact absurd rfl (hx z)
    | _ => rfl
theorem TextArg.gr {c : Ctx} {F F' : Hp} {x : V} (g : Gr F F') (h : TextArg c F x) : TextArg c F' x := by
  rcases h with h | ⟨⟨t, ht, hk⟩, hx⟩
  · exact .inl h
  · exact .inr ⟨⟨t, tyX_gr g ht, hk⟩, hx⟩
theorem okText_str {x : V} (h : okText x = true) : ∃ l, x = .str (T l) ∧ l.length ≤ 4000 := by
  cases x with
  | str z =>
    refine ⟨z.cps.toList, by rw [← Str_T], ?_⟩
    unfold okText at h
    simp only [Bool.and_eq_true, decide_eq_true_eq] at h
    have := h.1
    rw [Str_T z, T_len] at this
    exact this
  | _ => cases h
theorem rd_Reader_feed (R : FReader c) : RD N_Reader_feed (t_Reader_feed c) (sp_Reader_feed c) := by
  obtain ⟨cl, n1, n2⟩ := R
  rintro vs H Q E ⟨a, dx, r, x, F, L, rfl, ta, W, wf, k1, k2⟩
  unfold t_Reader_feed
  walk_at "r"
  refine ⟨x, F, _, rfl, ta, W, fun hok F1 H1 s1 W1 => ?_, fun hno F1 H1 s1 W1 => k2 hno F1 H1 s1 W1⟩
  obtain ⟨l, rfl, hl⟩ := okText_str hok
  walk_at "r"
  refine n_lstL W1 (sz rfl) fun p H2 W2 => ?_
  walk_at "r"
  refine x_forOk (F := F1) (ItOk.str l) (fun i σ H' => (∃ sg, σ = [some (.ref a), some (.str (T l)), some (.ref p), sg]) ∧ ∃ F' xs, Same F1 F' ∧ DpAll c.K F' xs ((r.feed (l.take i)).2.map Tk.data) ∧ Hold F' ((p, .lst xs) :: (a, rdO c dx (r.feed (l.take i)).1) :: L) H')
    (fun i σ H' _ ⟨_, F', xs, s, _, W'⟩ => (Gr.of s).trans W'.gr) ⟨⟨none, rfl⟩, F1, [], Same.refl F1, .nil, W2⟩ ?_ ?_
  · rintro i σ H' hi ⟨⟨sg, rfl⟩, F', xs, s, hxs, W'⟩
    walk_at "r"
    have hlx : (r.feed (l.take i)).2.length ≤ i := feed_len r i l
    have hxl := dpAll_len hxs
    rw [List.length_map] at hxl
    refine x_tylst (sq_of W'.get0) ?_
    have W3 : Hold F' ((a, rdO c dx (r.feed (l.take i)).1) :: (p, .lst xs) :: L) H' := W'.perm (List.Perm.swap _ _ _)
    walk_at "r"
    refine ⟨a, dx, _, _, F', _, rfl, W3, feed_wf wf, fun r1 zs F4 H4 s4 h4 hz W4 => ?_⟩
    walk_at "r"
    have W5 : Hold F4 ((p, .lst xs) :: (a, rdO c dx ((r.feed (l.take i)).1.read (l.getD i 0)).1) :: L) H4 := W4.perm (List.Perm.swap _ _ _)
    have hzl := dpAll_len hz
    rw [List.length_map] at hzl
    have hz2 := read_len (r.feed (l.take i)).1 (l.getD i 0)
    refine ⟨p, r1, xs, zs, rfl, rfl, W5.get0, W4.old _ _ h4, szl (by omega), ?_⟩
    have et : l.take (i + 1) = l.take i ++ [l.getD i 0] := by
      rw [List.take_succ, List.getD_eq_getElem?_getD, List.getElem?_eq_getElem hi]; rfl
    have ef : r.feed (l.take (i + 1)) = (((r.feed (l.take i)).1.read (l.getD i 0)).1, (r.feed (l.take i)).2 ++ ((r.feed (l.take i)).1.read (l.getD i 0)).2) := by
      rw [et, feed_app]; simp [Rdr.feed]
    refine ⟨⟨_, rfl⟩, F4, xs ++ zs, s.trans s4, ?_, ?_⟩
    · rw [ef, List.map_append]
      exact dpAll_app ((Gr.of s4).dpAll hxs) hz
    · rw [ef]
      exact W5.put0
  · rintro σ H' ⟨⟨sg, rfl⟩, F', xs, s, hxs, W'⟩
    walk_at "r"
    rw [List.take_length] at hxs W'
    exact k1 l rfl hok p xs F' H' (s1.trans s) hxs W'
theorem rd_told : RD N_told (t_told c) (sp_told c) := by
  rintro vs H Q E ⟨x, F, L, rfl, ta, W, k1, k2⟩
  unfold t_told
  walk_at "r"
  refine x_an W fun a dx H1 W1 => ?_
  refine ⟨a, dx, F, L, rfl, W1, fun H2 W2 => ⟨rfl, ?_⟩⟩
  walk_at "r"
  refine ⟨a, dx, Rdr.new, x, F, L, rfl, ta, W2, trivial, fun l hx hok p xs F' H' s hxs W' => ?_, fun hno F' H' s W' => k2 hno F' H' s W'.drop⟩
  exact k1 l hx hok p xs F' H' s hxs (W'.sub (List.Sublist.cons₂ _ (List.sublist_cons_self _ _)))
end
end Ss
/-! ## The laws' own draws -/
namespace Ss
open PySem PySem.Spec PyProof.Rows L2
open Ss in
local macro_rules | `(tactic| walk_at "fg") => `(tactic| first | with_reducible exact fsReader_g0 | with_reducible exact fsReader_g1)
open Ss in
local macro_rules | `(tactic| walk_at "r") => `(tactic| repeat (first
  | with_reducible refine x_seq ?_ | with_reducible refine x_asg ?_ | with_reducible refine x_var rfl ?_ | with_reducible refine x_c ?_ | with_reducible refine x_op ?_ | with_reducible refine x_name ?_ | with_reducible refine x_gcons ?_ | with_reducible refine x_gnil ?_
  | with_reducible refine x_cons ?_ | with_reducible refine x_nil ?_ | with_reducible refine x_cb ?_ | with_reducible refine x_ifs ?_ | with_reducible refine x_test ?_ | with_reducible refine x_bl ?_
  | with_reducible refine g_addNN ?_ | with_reducible refine g_addNL ?_ | with_reducible refine g_addLN ?_ | with_reducible refine l_addI ?_ | with_reducible refine l_subI ?_ | with_reducible refine g_ltNL ?_ | with_reducible refine l_ltI ?_ | with_reducible refine l_leI ?_ | with_reducible refine l_gtI ?_ | with_reducible refine l_geI ?_ | with_reducible refine l_eqX ?_ | with_reducible refine l_neX ?_ | with_reducible refine g_eqNL ?_ | with_reducible refine l_eqII ?_ | with_reducible refine l_neII ?_ | with_reducible refine l_eq rfl ?_ | with_reducible refine l_ne rfl ?_
  | with_reducible refine x_fld ?_ | with_reducible refine x_ret ?_ | with_reducible refine x_drop ?_ | with_reducible refine x_next ?_ | with_reducible refine x_tup ?_ | with_reducible refine x_lst ?_ | with_reducible refine x_f ?_ | with_reducible refine x_o ?_ | with_reducible refine x_n ?_
  | with_reducible refine x_bm ?_ | with_reducible refine x_bm0 ?_ | with_reducible refine x_m1 ?_ | with_reducible refine x_m0 ?_ | with_reducible refine x_isstr ?_ | with_reducible refine x_tystr ?_ | with_reducible refine x_sl ?_ | with_reducible refine x_part ?_ | with_reducible refine x_part' ?_ | with_reducible refine x_nopart ?_
  | with_reducible refine x_sfld ?_ | with_reducible refine x_if ?_ | with_reducible refine x_isty ?_ | with_reducible refine x_chain ?_ | with_reducible refine x_andV ?_ | with_reducible refine x_orV ?_ | with_reducible refine x_notV ?_ | with_reducible refine x_B ?_ | with_reducible refine x_and ?_ | with_reducible refine x_or ?_ | with_reducible refine x_not ?_ | with_reducible refine x_tru ?_ | with_reducible refine x_yes ?_
  | with_reducible refine x_un ?_ | with_reducible refine x_neg ?_ | with_reducible refine x_par ?_ | with_reducible refine x_par' ?_ | with_reducible refine x_retN ?_ | with_reducible refine x_brk ?_ | with_reducible refine x_cont ?_ | with_reducible refine x_rz ?_
  | with_reducible refine l_leS ?_ | with_reducible refine l_ltS ?_ | with_reducible refine l_inX ?_ | with_reducible refine l_niX ?_ | with_reducible refine l_inS ?_ | with_reducible refine l_niS ?_ | with_reducible refine l_count ?_ | with_reducible refine l_ord ?_ | with_reducible refine l_max ?_ | with_reducible refine l_min ?_ | with_reducible refine l_intI ?_ | with_reducible refine l_intB ?_ | with_reducible refine l_is ?_ | with_reducible refine l_isn ?_
  | with_reducible refine g_modNL (by decide) ?_ | with_reducible refine g_divNL (by decide) (by decide) ?_ | with_reducible refine l_modI (by decide) ?_ | with_reducible refine x_for ?_ | with_reducible refine x_lc ?_ | with_reducible refine x_ilist ?_ | with_reducible refine x_itup ?_ | with_reducible refine x_istr ?_ | with_reducible refine x_istr' ?_ | with_reducible refine x_irng1 ?_ | with_reducible refine x_irng2 ?_
  | (with_reducible refine x_get (by first | assumption | exact Hold.get0 (by assumption) | exact Hold.get1 (by assumption)) (by assumption) (by assumption) (by walk_at "fg") ?_)
  | (with_reducible refine x_ao (by first | assumption | exact Hold.get0 (by assumption) | exact Hold.get1 (by assumption)) (by kernel_rfl) ?_)))
/-- a great number by a cell and a place -/
def drawn (x : Int) (k : Nat) : Nat :=
  let a := ((x * 6364136223846793005 + ((k : Int) + 1) * 1442695040888963407) % 340282366920938463463374607431768211507).toNat
  let b := a * a % 340282366920938463463374607431768211297
  (b % 18446744073709551557 + 1) * (b / 18446744073709551557 + 1) * b % 340282366920938463463374607431768211507
theorem drawn_lt (x : Int) (k : Nat) : drawn x k < 340282366920938463463374607431768211507 := Nat.mod_lt _ (by decide)
theorem drawn_small (x : Int) (k : Nat) : drawn x k < 2 ^ 129 := Nat.lt_trans (drawn_lt x k) (by decide)
def cellOf (ns : List Int) (k : Nat) : Int := if ns = [] then (k : Int) * 7919 else ns.getD (k % ns.length) 0 + ((k / ns.length : Nat) : Int) * 104729
def sp__law_cell (c : Ctx) : Sp := fun vs H Q _ => ∃ a ns k F L, vs = [.ref a, .int ((k : Nat) : Int)] ∧ k ≤ 1000 ∧ SqL c.K F a (ns.map V.int) ∧ ns.length ≤ 63 ∧ Hold F L H ∧ ∀ F' H', Same F F' → Hold F' L H' → Q (.int (cellOf ns k)) H'
/-- a bound of what is drawn from -/
@[irreducible] def bigB : Nat := 2 ^ 1048580
theorem bigB_eq : bigB = 2 ^ 1048580 := by unfold bigB; rfl
theorem big_of {n k : Nat} (h : n < 2 ^ k) (hk : k ≤ 1048580) : n < bigB := by
  rw [bigB_eq]
  exact Nat.lt_of_lt_of_le h (Nat.pow_le_pow_right (by decide) hk)
theorem big_nat {n k : Nat} (h : n < 2 ^ k) (hk : k ≤ 1048580) : ((n : Nat) : Int).natAbs < bigB := by rw [Int.natAbs_natCast]; exact big_of h hk
def sp__law_drawn (_ : Ctx) : Sp := fun vs H Q _ => ∃ x k, vs = [.int x, .int ((k : Nat) : Int)] ∧ x.natAbs < bigB ∧ k < 2 ^ 64 ∧ Q (.int ((drawn x k : Nat) : Int)) H
def oneSigns : List Nat := [97, 98, 99, 100, 101, 88, 89, 32, 94, 40, 44, 41, 49, 57, 126]
def oneSmall : List Nat := [117, 100, 108, 114, 104, 110, 112, 101, 98, 107, 99, 115, 116, 122, 113, 120]
def oneGreat : List Nat := [71, 82, 67, 66, 77, 88, 73, 68, 78, 74, 90, 71]
def oneNums : List Nat := [0, 1, 2, 3, 4, 7, 12, 9999]
def oneMany (h w : Nat) : Nat := if h / 16 % 8 = 0 then h / 128 % 5 else if w = 71 ∨ w = 82 then 2 else 1
def lawOne (m : Nat) : Tk :=
  if m % 16 < 8 then .sign (oneSigns.getD (m / 64 % 15) 0)
  else if m % 16 = 8 then .fin
  else if m % 16 < 13 then .act (oneSmall.getD (m / 64 % 16) 0) []
  else .act (oneGreat.getD (m / 64 % 12) 0) ((List.range (oneMany (m / 64) (oneGreat.getD (m / 64 % 12) 0))).map fun j => oneNums.getD (drawn ((m / 64 : Nat) : Int) j % 8) 0)
def sp__law_one (c : Ctx) : Sp := fun vs H Q _ => ∃ m F L, vs = [.int ((m : Nat) : Int)] ∧ m < 2 ^ 200 ∧ Hold F L H ∧ ∀ v F' H', Same F F' → Dp c.K F' v (lawOne m).data → Hold F' L H' → Q v H'
def runSigns : List Nat := [109, 110, 111, 112]
def lawStep (m j : Nat) : List Tk := (if drawn m j % 5 = 0 then (List.range (drawn m j / 64 % 15)).map fun n => .sign (runSigns.getD ((drawn m j / 8 + n) % 4) 0) else []) ++ [lawOne (drawn m j / 8)]
def lawRow (m many : Nat) : List Tk := (List.range (m % (many + 1))).flatMap (lawStep m)
def sp__law_row (c : Ctx) : Sp := fun vs H Q _ => ∃ m many F L, vs = [.int ((m : Nat) : Int), .int ((many : Nat) : Int)] ∧ m < 2 ^ 200 ∧ many ≤ 50 ∧ Hold F L H ∧
  ∀ (r : Addr) xs F' H', Same F F' → DpAll c.K F' xs ((lawRow m many).map Tk.data) → Hold F' ((r, .lst xs) :: L) H' → Q (.ref r) H'
/-- what tells a thing -/
def Tk.text : Tk → List Nat
  | .sign n => if n = 94 then [94, 94] else [n]
  | .fin => [10]
  | .act w ns => if isSmall w then [94, w] else [94, w, 40] ++ (TL.joinL [44] (ns.map TL.numL) ++ [41])
def lawText (ts : List Tk) : List Nat := ts.flatMap Tk.text
/-- small things -/
def Tk.Few : Tk → Prop
  | .sign _ => True
  | .fin => True
  | .act _ ns => ns.length ≤ 4 ∧ ∀ n ∈ ns, n ≤ 9999
def sp__law_text (c : Ctx) : Sp := fun vs H Q _ => ∃ a xs ts F L, vs = [.ref a] ∧ SqL c.K F a xs ∧ DpAll c.K F xs (List.map Tk.data ts) ∧ (∀ t ∈ ts, t.Few) ∧ ts.length ≤ 10000 ∧ Hold F L H ∧ ∀ F' H', Same F F' → Hold F' L H' → Q (.str (T (lawText ts))) H'
def t__law_cell (c : Ctx) (E : XK) : TS :=
  (tSeq (tIfS (tTest (tOp (uEq c.K) (tVar 0) (tLst tNil))) (tRet (tOp (uMul c.K) (tVar 1) (tC (.int 7919)))) tNext)
  (tRet (tOp (uAdd c.K) (tOp (uIx c.K) (tVar 0) (tOp uMod (tVar 1) (tCB (uLen c.K) (tCons (tVar 0) tNil)))) (tOp (uMul c.K) (tOp uDiv (tVar 1) (tCB (uLen c.K) (tCons (tVar 0) tNil))) (tC (.int 104729))))))
abbrev N__law_cell : List Str := ["_law_script", "_law_k"]

def t__law_drawn (c : Ctx) (E : XK) : TS :=
  (tSeq (tAsg (tOp uMod (tOp (uAdd c.K) (tOp (uMul c.K) (tVar 0) (tC (.int 6364136223846793005))) (tOp (uMul c.K) (tOp (uAdd c.K) (tVar 1) (tC (.int 1))) (tC (.int 1442695040888963407)))) (tC (.int 340282366920938463463374607431768211507))) (gName 2))
  (tSeq (tAsg (tOp uMod (tOp (uMul c.K) (tVar 2) (tVar 2)) (tC (.int 340282366920938463463374607431768211297))) (gName 2))
  (tSeq (tAsg (tOp (uMul c.K) (tOp (uMul c.K) (tOp (uAdd c.K) (tOp uMod (tVar 2) (tC (.int 18446744073709551557))) (tC (.int 1))) (tOp (uAdd c.K) (tOp uDiv (tVar 2) (tC (.int 18446744073709551557))) (tC (.int 1)))) (tVar 2)) (gName 2))
  (tRet (tOp uMod (tVar 2) (tC (.int 340282366920938463463374607431768211507)))))))
abbrev N__law_drawn : List Str := ["_law_cell_here", "_law_k", "_law_more"]

def t__law_one (c : Ctx) (E : XK) : TS :=
  (tSeq (tAsg (tOp uDiv (tVar 0) (tC (.int 64))) (gName 1))
  (tSeq (tAsg (tOp uMod (tVar 0) (tC (.int 16))) (gName 2))
  (tSeq (tIfS (tTest (tOp uLt (tVar 2) (tC (.int 8)))) (tRet (tTup (tCons (tC (.str ⟨#[115, 105, 103, 110]⟩)) (tCons (tOp (uIx c.K) (tC (.str ⟨#[97, 98, 99, 100, 101, 88, 89, 32, 94, 40, 44, 41, 49, 57, 126]⟩)) (tOp uMod (tVar 1) (tC (.int 15)))) tNil)))) tNext)
  (tSeq (tIfS (tTest (tOp (uEq c.K) (tVar 2) (tC (.int 8)))) (tRet (tTup (tCons (tC (.str ⟨#[101, 110, 100]⟩)) tNil))) tNext)
  (tSeq (tIfS (tTest (tOp uLt (tVar 2) (tC (.int 13)))) (tRet (tTup (tCons (tC (.str ⟨#[100, 111]⟩)) (tCons (tOp (uIx c.K) (tC (.str ⟨#[117, 100, 108, 114, 104, 110, 112, 101, 98, 107, 99, 115, 116, 122, 113, 120]⟩)) (tOp uMod (tVar 1) (tC (.int 16)))) (tCons (tTup tNil) tNil))))) tNext)
  (tSeq (tAsg (tOp (uIx c.K) (tC (.str ⟨#[71, 82, 67, 66, 77, 88, 73, 68, 78, 74, 90, 71]⟩)) (tOp uMod (tVar 1) (tC (.int 12)))) (gName 3))
  (tSeq (tAsg (tDGet2 (tDisp [((tC (.str ⟨#[71]⟩)), (tC (.int 2))), ((tC (.str ⟨#[82]⟩)), (tC (.int 2)))]) (tVar 3) (tC (.int 1))) (gName 4))
  (C8.tCut (tIfS (tTest (tOp (uEq c.K) (tOp uMod (tOp uDiv (tVar 1) (tC (.int 16))) (tC (.int 8))) (tC (.int 0)))) (tAsg (tOp uMod (tOp uDiv (tVar 1) (tC (.int 128))) (tC (.int 5))) (gName 4)) tNext) (tSeq (tAsg (tLc (iRng1 (tCons (tVar 4) tNil)) (gName 6) tYes (tOp (uIx c.K) (tLst (tCons (tC (.int 0)) (tCons (tC (.int 1)) (tCons (tC (.int 2)) (tCons (tC (.int 3)) (tCons (tC (.int 4)) (tCons (tC (.int 7)) (tCons (tC (.int 12)) (tCons (tC (.int 9999)) tNil))))))))) (tOp uMod (tF (sp__law_drawn c) E0 (tCons (tVar 1) (tCons (tVar 6) tNil))) (tC (.int 8)))) [6]) (gName 5))
  (tRet (tTup (tCons (tC (.str ⟨#[100, 111]⟩)) (tCons (tVar 3) (tCons (tCB (uTuple c.K) (tCons (tVar 5) tNil)) tNil))))))))))))))
abbrev N__law_one : List Str := ["_law_more", "_law_here", "_law_way", "_law_word_here", "_law_many", "_law_numbers", "_law_j"]

def t__law_row (c : Ctx) (E : XK) : TS :=
  (tSeq (tAsg (tLst tNil) (gName 2))
  (tSeq (tFor (iRng1 (tCons (tOp uMod (tVar 0) (tOp (uAdd c.K) (tVar 1) (tC (.int 1)))) tNil)) (gName 3) (tSeq (tAsg (tF (sp__law_drawn c) E0 (tCons (tVar 0) (tCons (tVar 3) tNil))) (gName 4))
  (C8.tCut (tIfS (tTest (tOp (uEq c.K) (tOp uMod (tVar 4) (tC (.int 5))) (tC (.int 0)))) (tAsg (tOp (uAdd c.K) (tVar 2) (tLc (iRng1 (tCons (tOp uMod (tOp uDiv (tVar 4) (tC (.int 64))) (tC (.int 15))) tNil)) (gName 5) tYes (tTup (tCons (tC (.str ⟨#[115, 105, 103, 110]⟩)) (tCons (tOp (uIx c.K) (tC (.str ⟨#[109, 110, 111, 112]⟩)) (tOp uMod (tOp (uAdd c.K) (tOp uDiv (tVar 4) (tC (.int 8))) (tVar 5)) (tC (.int 4)))) tNil))) [5])) (gName 2)) tNext) (tDrop (tBM c.K "list" rAppend (tVar 2) (tCons (tF (sp__law_one c) E0 (tCons (tOp uDiv (tVar 4) (tC (.int 8))) tNil)) tNil))))))
  (tRet (tVar 2))))
abbrev N__law_row : List Str := ["_law_more", "_law_many", "_law_found", "_law_j", "_law_here", "_law_n"]

def t__law_text (c : Ctx) (E : XK) : TS :=
  (tSeq (tAsg (tLst tNil) (gName 1))
  (tSeq (tFor (iList c.K (tVar 0)) (gName 2) (tIfS (tTest (tOp (uEq c.K) (tOp (uIx c.K) (tVar 2) (tC (.int 0))) (tC (.str ⟨#[115, 105, 103, 110]⟩)))) (tDrop (tBM c.K "list" rAppend (tVar 1) (tCons (CwR.tReplC (tOp (uIx c.K) (tVar 2) (tC (.int 1))) ⟨#[94]⟩ ⟨#[94, 94]⟩) tNil))) (tIfS (tTest (tOp (uEq c.K) (tOp (uIx c.K) (tVar 2) (tC (.int 0))) (tC (.str ⟨#[101, 110, 100]⟩)))) (tDrop (tBM c.K "list" rAppend (tVar 1) (tCons (tC (.str ⟨#[10]⟩)) tNil))) (tIfS (tTest (tOp (uIn c.K) (tOp (uIx c.K) (tVar 2) (tC (.int 1))) (tC (.str ⟨#[97, 98, 99, 100, 101, 102, 103, 104, 105, 106, 107, 108, 109, 110, 111, 112, 113, 114, 115, 116, 117, 118, 119, 120, 121, 122]⟩)))) (tDrop (tBM c.K "list" rAppend (tVar 1) (tCons (tOp (uAdd c.K) (tC (.str ⟨#[94]⟩)) (tOp (uIx c.K) (tVar 2) (tC (.int 1)))) tNil))) (tDrop (tBM c.K "list" rAppend (tVar 1) (tCons (tOp (uAdd c.K) (tOp (uAdd c.K) (tOp (uAdd c.K) (tOp (uAdd c.K) (tC (.str ⟨#[94]⟩)) (tOp (uIx c.K) (tVar 2) (tC (.int 1)))) (tC (.str ⟨#[40]⟩))) (tM1 (u_join c.K) (tC (.str ⟨#[44]⟩)) (tLc (iTup c.K (tOp (uIx c.K) (tVar 2) (tC (.int 2)))) (gName 3) tYes (tCB uStr (tCons (tVar 3) tNil)) [3]))) (tC (.str ⟨#[41]⟩))) tNil)))))))
  (tRet (tM1 (u_join c.K) (tC (.str ⟨#[]⟩)) (tVar 1)))))
abbrev N__law_text : List Str := ["_law_row_here", "_law_found", "_law_one_here", "_law_n"]

section
variable {c : Ctx}
theorem rd__law_cell : RD N__law_cell (t__law_cell c) (sp__law_cell c) := by
  rintro vs H Q E ⟨a, ns, k, F, L, rfl, hk, hs, hl, W, kk⟩
  unfold t__law_cell
  walk_at "r"
  refine n_lstF W (sz rfl) fun p F1 H1 s1 h1 W1 => ?_
  refine l_eqD (.lst (W1.gr.sqL ((Gr.of s1).sqL hs)) (dpAll_ints ns)) (.lst (sq_of (W1.old _ _ h1)) .nil) ((Sh.ints ns (k := 0)).shaped (by decide)) ((Sh.lst (k := 0) (by simp)).shaped (by decide)) ?_
  walk_at "r"
  cases ns with
  | nil =>
    refine wT rfl ?_
    walk_at "r"
    refine l_mulI (mulx_ok (a := 20) (b := 20) (by omega) (by decide) (by decide)) ?_
    exact kk F1 H1 s1 W1
  | cons n ns =>
    refine wF rfl ?_
    walk_at "r"
    refine l_lenL (W1.gr.sqL ((Gr.of s1).sqL hs)) ?_
    walk_at "r"
    refine g_modNN (by simp) ?_
    have hlt : k % ((n :: ns).map V.int).length < ((n :: ns).map V.int).length := Nat.mod_lt _ (by simp)
    refine g_ixL (W1.gr.sqL ((Gr.of s1).sqL hs)) hlt ?_
    walk_at "r"
    refine l_lenL (W1.gr.sqL ((Gr.of s1).sqL hs)) ?_
    walk_at "r"
    refine g_divNN (by simp) (by simp at hl ⊢; omega) ?_
    walk_at "r"
    have hkd : k / ((n :: ns).map V.int).length ≤ k := Nat.div_le_self _ _
    refine l_mulI (mulx_ok (a := 20) (b := 20) (by rw [Int.natAbs_natCast]; exact Nat.lt_of_le_of_lt (Nat.div_le_self _ _) (by omega)) (by decide) (by decide)) ?_
    have e : ((n :: ns).map V.int).getD (k % ((n :: ns).map V.int).length) .non = .int ((n :: ns).getD (k % (n :: ns).length) 0) := by
      rw [List.length_map, List.getD_eq_getElem?_getD, List.getD_eq_getElem?_getD, List.getElem?_map, List.getElem?_eq_getElem (by rw [← List.length_map (f := V.int)]; exact hlt)]
      rfl
    rw [e, List.length_map]
    walk_at "r"
    exact kk F1 H1 s1 W1
theorem rd__law_drawn : RD N__law_drawn (t__law_drawn c) (sp__law_drawn c) := by
  rintro vs H Q E ⟨x, k, rfl, hx, hk, kk⟩
  unfold t__law_drawn
  walk_at "r"
  rw [bigB_eq] at hx
  refine l_mulI (mulx_ok (a := 1048580) (b := 64) hx (by decide) (by decide)) ?_
  walk_at "r"
  refine l_mulI (mulx_ok (a := 65) (b := 64) (by omega) (by decide) (by decide)) ?_
  walk_at "r"
  have ek : ((k + 1 : Nat) : Int) = (k : Int) + 1 := by omega
  rw [ek]
  generalize hX : x * 6364136223846793005 + ((k : Int) + 1) * 1442695040888963407 = X
  have ea : X % 340282366920938463463374607431768211507 = (((X % 340282366920938463463374607431768211507).toNat : Nat) : Int) := (Int.toNat_of_nonneg (Int.emod_nonneg _ (by decide))).symm
  have ha : (X % 340282366920938463463374607431768211507).toNat < 340282366920938463463374607431768211507 := by
    have := Int.emod_lt_of_pos X (b := 340282366920938463463374607431768211507) (by decide)
    omega
  rw [ea]
  unfold drawn at kk
  rw [hX] at kk
  generalize (X % 340282366920938463463374607431768211507).toNat = a at ha kk
  refine g_mulNN (by omega) (by omega) ?_
  walk_at "r"
  have hb : a * a % 340282366920938463463374607431768211297 < 340282366920938463463374607431768211297 := Nat.mod_lt _ (by decide)
  dsimp only at kk
  generalize a * a % 340282366920938463463374607431768211297 = b at hb kk
  have hb1 : b % 18446744073709551557 + 1 < 2 ^ 65 := by omega
  have hb2 : b / 18446744073709551557 + 1 < 2 ^ 65 := by omega
  refine g_mulNN (by omega) (by omega) ?_
  walk_at "r"
  refine g_mulNN ?_ (by omega) ?_
  · exact Nat.lt_trans (Nat.mul_lt_mul'' hb1 hb2) (by decide)
  walk_at "r"
  exact kk
theorem rd__law_one : RD N__law_one (t__law_one c) (sp__law_one c) := by
  rintro vs H Q E ⟨m, F, L, rfl, hm, W, kk⟩
  unfold t__law_one
  walk_at "r"
  unfold lawOne at kk
  refine wD (fun h => ?_) (fun h => ?_)
  · rw [if_pos h] at kk
    walk_at "r"
    refine g_ixX (by decide) (Nat.mod_lt _ (by decide)) ?_
    walk_at "r"
    refine n_tupF W (sz rfl) fun p F' H' s h' W' => ?_
    exact kk _ F' H' s (.tup (st_of h') (.cons (.str _) (.cons (.str _) .nil))) W'
  · rw [if_neg h] at kk
    walk_at "r"
    refine wD (fun h1 => ?_) (fun h1 => ?_)
    · rw [if_pos h1] at kk
      walk_at "r"
      refine n_tupF W (sz rfl) fun p F' H' s h' W' => ?_
      exact kk _ F' H' s (.tup (st_of h') (.cons (.str _) .nil)) W'
    · rw [if_neg h1] at kk
      walk_at "r"
      refine wD (fun h2 => ?_) (fun h2 => ?_)
      · rw [if_pos h2] at kk
        walk_at "r"
        refine g_ixX (by decide) (Nat.mod_lt _ (by decide)) ?_
        walk_at "r"
        refine n_tupF W (sz rfl) fun p0 F0 H0 s0 h0 W0 => ?_
        walk_at "r"
        refine n_tupF W0 (sz rfl) fun p F' H' s h' W' => ?_
        exact kk _ F' H' (s0.trans s) (.tup (st_of h') (.cons (.str _) (.cons (.str _) (.cons (.tup (st_of (s _ _ h0)) .nil) .nil)))) W'
      · rw [if_neg h2] at kk
        walk_at "r"
        refine g_ixX (by decide) (Nat.mod_lt _ (by decide)) ?_
        walk_at "r"
        refine x_dget2 (n_dispC [(Sum.inr (T [71]), .int 2), (Sum.inr (T [82]), .int 2)] W rfl (by decide) fun pd H1 W1 => ?_)
        refine x_isd W1.get0 ?_
        walk_at "r"
        refine x_dgetS W1.get0 ?_
        have hw : ∀ i, i < 12 → (valV (mergeK [] [(Sum.inr (T [71]), V.int 2), (Sum.inr (T [82]), .int 2)]) (Sum.inr (T [oneGreat.getD i 0]))).getD (.int 1) = .int (((if oneGreat.getD i 0 = 71 ∨ oneGreat.getD i 0 = 82 then 2 else 1 : Nat) : Nat) : Int) := by decide +kernel
        have hw' := hw (m / 64 % 12) (Nat.mod_lt _ (by decide))
        rw [show ([71, 82, 67, 66, 77, 88, 73, 68, 78, 74, 90, 71] : List Nat) = oneGreat from rfl, hw']
        generalize hwd : oneGreat.getD (m / 64 % 12) 0 = w at kk ⊢
        walk_at "r"
        refine x_cut (fun σ' H' => H' = H1 ∧ σ' = [some (.int (m : Int)), some (.int ((m / 64 : Nat) : Int)), some (.int ((m % 16 : Nat) : Int)), some (.str (T [w])), some (.int ((oneMany (m / 64) w : Nat) : Int)), none, none]) ?_ ?_
        · walk_at "r"
          refine wD (fun h3 => ?_) (fun h3 => ?_)
          · walk_at "r"
            refine ⟨rfl, ?_⟩
            unfold oneMany
            rw [if_pos h3]
            rfl
          · walk_at "r"
            refine ⟨rfl, ?_⟩
            unfold oneMany
            rw [if_neg h3]
            rfl
        · rintro σ' H' ⟨rfl, rfl⟩
          have hmany : oneMany (m / 64) w ≤ 4 := by
            unfold oneMany
            split
            · omega
            · split <;> omega
          walk_at "r"
          refine x_irng1' (by omega) (by omega) ?_
          rw [Int.toNat_natCast]
          refine x_lcOk (F := F) ItOk.rng W1.drop (by omega) (fun j v _ => v = .int ((oneNums.getD (drawn ((m / 64 : Nat) : Int) j % 8) 0 : Nat) : Int)) (fun _ _ _ _ _ h => h) (fun d j F' H' QQ hj s W' kq => ?_) gm_name (fun D ys F' H' s hlen hv W' => ?_)
          · refine ⟨wipe1, ?_⟩
            walk_at "r"
            refine n_lstF W' (sz rfl) fun p1 F1 H1 s1 h1 W1 => ?_
            walk_at "r"
            have ej : (0 : Int) + (j : Int) = (j : Int) := Int.zero_add _
            rw [ej]
            refine ⟨_, j, rfl, big_nat (Nat.lt_of_le_of_lt (Nat.div_le_self _ _) hm) (by decide), by omega, ?_⟩
            walk_at "r"
            have h8 : drawn ((m / 64 : Nat) : Int) j % 8 < 8 := Nat.mod_lt _ (by decide)
            refine g_ixL (sq_of (W1.old _ _ h1)) h8 (kq _ F1 H1 s1 W1 ?_)
            have : ∀ i, i < 8 → [V.int 0, V.int 1, V.int 2, V.int 3, V.int 4, V.int 7, V.int 12, V.int 9999].getD i .non = .int ((oneNums.getD i 0 : Nat) : Int) := by decide +kernel
            exact this _ h8
          · walk_at "r"
            refine n_tupleF W' (sq_of W'.get0) fun p1 F1 H1 s1 h1 W1 => ?_
            walk_at "r"
            refine n_tupF W1 (sz rfl) fun p2 F2 H2 s2 h2 W2 => ?_
            refine kk _ F2 H2 ((s.trans s1).trans s2) (.tup (st_of h2) (.cons (.str _) (.cons (.str _) (.cons (.tup (st_of (s2 _ _ h1)) ?_) .nil)))) W2.drop
            refine dpAll_of (by simp [hlen]) fun i hi => ?_
            have hi' : i < oneMany (m / 64) w := by simpa using hi
            rw [hv i hi']
            have e2 : (((List.range (oneMany (m / 64) w)).map fun j => oneNums.getD (drawn ((m / 64 : Nat) : Int) j % 8) 0).map fun (n : Nat) => PyData.int n).getD i .none = .int ((oneNums.getD (drawn ((m / 64 : Nat) : Int) i % 8) 0 : Nat) : Int) := by
              rw [List.map_map, List.getD_eq_getElem?_getD, List.getElem?_map, List.getElem?_range hi']; rfl
            rw [e2]
            exact .int _
theorem one_few (m : Nat) : (lawOne m).Few := by
  unfold lawOne
  split
  · trivial
  · split
    · trivial
    · split
      · exact ⟨by simp, by simp⟩
      · refine ⟨?_, fun n hn => ?_⟩
        · rw [List.length_map, List.length_range]
          unfold oneMany
          split
          · omega
          · split <;> omega
        · obtain ⟨j, _, rfl⟩ := List.mem_map.mp hn
          have : ∀ i, i < 8 → oneNums.getD i 0 ≤ 9999 := by decide
          exact this _ (Nat.mod_lt _ (by decide))
theorem step_few (m j : Nat) : ∀ t ∈ lawStep m j, t.Few := by
  intro t ht
  unfold lawStep at ht
  rcases List.mem_append.mp ht with h | h
  · split at h
    · obtain ⟨n, _, rfl⟩ := List.mem_map.mp h; trivial
    · cases h
  · rw [List.mem_singleton.mp h]; exact one_few _
theorem row_few (m many : Nat) : ∀ t ∈ lawRow m many, t.Few := by
  intro t ht
  obtain ⟨j, _, h⟩ := List.mem_flatMap.mp ht
  exact step_few m j t h
theorem step_len (m j : Nat) : (lawStep m j).length ≤ 15 := by
  unfold lawStep
  rw [List.length_append]
  split
  · rw [List.length_map, List.length_range]; simp; omega
  · simp
theorem flat_len {α β : Type} {f : α → List β} {k : Nat} (h : ∀ x, (f x).length ≤ k) : ∀ l : List α, (l.flatMap f).length ≤ k * l.length
  | [] => by simp
  | x :: l => by
    rw [List.flatMap_cons, List.length_append, List.length_cons, Nat.mul_succ]
    have := h x
    have := flat_len h l
    omega
theorem row_len (m many : Nat) : (lawRow m many).length ≤ 15 * many := by
  unfold lawRow
  have h := flat_len (step_len m) (List.range (m % (many + 1)))
  rw [List.length_range] at h
  have : m % (many + 1) ≤ many := by have := Nat.mod_lt m (show 0 < many + 1 by omega); omega
  exact Nat.le_trans h (Nat.mul_le_mul_left _ this)
theorem rd__law_row : RD N__law_row (t__law_row c) (sp__law_row c) := by
  rintro vs H Q E ⟨m, many, F, L, rfl, hm, hy, W, kk⟩
  unfold t__law_row
  walk_at "r"
  refine n_lstL W (sz rfl) fun p0 H0 W0 => ?_
  walk_at "r"
  refine g_modNN (Nat.succ_pos _) ?_
  walk_at "r"
  have hle : m % (many + 1) ≤ many := by have := Nat.mod_lt m (show 0 < many + 1 by omega); omega
  refine x_irng1' (by omega) (by omega) ?_
  rw [Int.toNat_natCast]
  refine x_forOk (F := F) ItOk.rng (fun i σ H' => ∃ s3 s4 s5 p F' xs, σ = [some (.int (m : Int)), some (.int (many : Int)), some (.ref p), s3, s4, s5] ∧ Same F F' ∧ DpAll c.K F' xs (((List.range i).flatMap (lawStep m)).map Tk.data) ∧ Hold F' ((p, .lst xs) :: L) H')
    (fun i σ H' _ ⟨_, _, _, _, F', xs, _, s, _, W'⟩ => (Gr.of s).trans W'.gr) ⟨none, none, none, p0, F, [], rfl, Same.refl F, .nil, W0⟩ ?_ ?_
  · rintro i σ H' hi ⟨s3, s4, s5, p, F', xs, rfl, s, hxs, W'⟩
    have ei : (0 : Int) + (i : Int) = (i : Int) := Int.zero_add _
    rw [ei]
    have hxl := dpAll_len hxs
    rw [List.length_map] at hxl
    have hxl2 := flat_len (step_len m) (List.range i)
    rw [List.length_range] at hxl2
    walk_at "r"
    refine ⟨_, i, rfl, big_nat hm (by decide), by omega, ?_⟩
    have hdr := drawn_small (m : Int) i
    have hst : lawStep m i = (if drawn m i % 5 = 0 then (List.range (drawn m i / 64 % 15)).map fun n => .sign (runSigns.getD ((drawn m i / 8 + n) % 4) 0) else []) ++ [lawOne (drawn m i / 8)] := rfl
    generalize hg : drawn (m : Int) i = g at hdr hst ⊢
    walk_at "r"
    refine x_cut (fun σ' H2 => ∃ s5 p2 F2 ys, σ' = [some (.int (m : Int)), some (.int (many : Int)), some (.ref p2), some (.int (i : Int)), some (.int (g : Int)), s5] ∧ Same F' F2 ∧ ys.length ≤ xs.length + 15 ∧
      DpAll c.K F2 ys (((List.range i).flatMap (lawStep m)).map Tk.data ++ (if g % 5 = 0 then (List.range (g / 64 % 15)).map fun n => Tk.sign (runSigns.getD ((g / 8 + n) % 4) 0) else []).map Tk.data) ∧ Hold F2 ((p2, .lst ys) :: L) H2) ?_ ?_
    · walk_at "r"
      refine wD (fun h => ?_) (fun h => ?_)
      · rw [if_pos h]
        walk_at "r"
        refine x_irng1' (by omega) (by omega) ?_
        rw [Int.toNat_natCast]
        refine x_lcOk (F := F') ItOk.rng W' (by omega) (fun n v F => Dp c.K F v (Tk.sign (runSigns.getD ((g / 8 + n) % 4) 0)).data) (fun _ _ _ _ g h => g.dp h) (fun d n F1 H1 QQ hn s1 W1 kq => ?_) gm_name (fun D ys F1 H1 s1 hlen hv W1 => ?_)
        · refine ⟨wipe1, ?_⟩
          have en : (0 : Int) + (n : Int) = (n : Int) := Int.zero_add _
          rw [en]
          walk_at "r"
          refine g_ixX (by decide) (Nat.mod_lt _ (by decide)) ?_
          walk_at "r"
          refine n_tupF W1 (sz rfl) fun p1 F4 H4 s4 h4 W4 => ?_
          exact kq _ F4 H4 s4 W4 (.tup (st_of h4) (.cons (.str _) (.cons (.str _) .nil)))
        · refine n_addL W1.drop (W1.get1) W1.get0 (szl (by omega)) fun r H4 W4 => ?_
          walk_at "r"
          refine ⟨_, r, F1, xs ++ ys, rfl, s1, by rw [List.length_append]; omega, dpAll_app ((Gr.of s1).dpAll hxs) (dpAll_of (by simp [hlen]) fun j hj => ?_), W4.sub (List.Sublist.cons₂ _ (List.sublist_cons_self _ _))⟩
          have hj' : j < g / 64 % 15 := by simpa using hj
          have e2 : (((List.range (g / 64 % 15)).map fun n => Tk.sign (runSigns.getD ((g / 8 + n) % 4) 0)).map Tk.data).getD j .none = (Tk.sign (runSigns.getD ((g / 8 + j) % 4) 0)).data := by
            rw [List.map_map, List.getD_eq_getElem?_getD, List.getElem?_map, List.getElem?_range hj']; rfl
          rw [e2]
          exact hv j hj'
      · rw [if_neg h]
        walk_at "r"
        exact ⟨s5, p, F', xs, rfl, Same.refl F', by omega, by rw [List.map_nil, List.append_nil]; exact hxs, W'⟩
    · rintro σ2 H2 ⟨s5, p2, F2, ys, rfl, s2, hyl, hys, W2⟩
      walk_at "r"
      refine x_tylst (sq_of W2.get0) ?_
      walk_at "r"
      refine ⟨g / 8, F2, _, rfl, Nat.lt_of_le_of_lt (Nat.div_le_self _ _) (Nat.lt_trans hdr (by decide)), W2, fun v F4 H4 s4 hv W4 => ?_⟩
      walk_at "r"
      refine ⟨p2, ys, v, rfl, rfl, W4.get0, szlt (by omega), ?_⟩
      refine ⟨_, _, _, p2, F4, ys ++ [v], rfl, (s.trans s2).trans s4, ?_, W4.put0⟩
      rw [List.range_succ, List.flatMap_append, List.map_append, List.flatMap_singleton, hst, List.map_append, ← List.append_assoc]
      exact dpAll_app ((Gr.of s4).dpAll hys) (.cons hv .nil)
  · rintro σ H' ⟨s3, s4, s5, p, F', xs, rfl, s, hxs, W'⟩
    walk_at "r"
    exact kk p xs F' H' s hxs W'
/-- one thing told, as it lies at b -/
def TkAt (K : PySem.W.Frag) (F : Hp) (b : Addr) (t : Tk) : Prop := match t with
    | .sign n => SqT K F b [.str (T [115, 105, 103, 110]), .str (T [n])]
    | .fin => SqT K F b [.str (T [101, 110, 100])]
    | .act w ns => ∃ q, SqT K F b [.str (T [100, 111]), .str (T [w]), .ref q] ∧ SqT K F q (ns.map fun (n : Nat) => V.int n)
theorem tk_view {K : PySem.W.Frag} {F : Hp} {v : V} {t : Tk} (h : Dp K F v t.data) : ∃ b, v = .ref b ∧ TkAt K F b t := by
  cases t with
  | sign n =>
    cases h with
    | tup hs ha =>
      cases ha with
      | cons h1 h2 => cases h1; cases h2 with | cons h3 h4 => cases h3; cases h4; exact ⟨_, rfl, hs⟩
  | fin =>
    cases h with
    | tup hs ha =>
      cases ha with
      | cons h1 h2 => cases h1; cases h2; exact ⟨_, rfl, hs⟩
  | act w ns =>
    cases h with
    | tup hs ha =>
      cases ha with
      | cons h1 h2 =>
        cases h1
        cases h2 with
        | cons h3 h4 =>
          cases h3
          cases h4 with
          | cons h5 h6 =>
            cases h6
            cases h5 with
            | tup hq hn =>
              refine ⟨_, rfl, _, hs, ?_⟩
              have : ∀ (l : List Nat) (ys : List V), DpAll K F ys (l.map fun (n : Nat) => .int n) → ys = l.map fun (n : Nat) => V.int n := by
                intro l
                induction l with
                | nil => intro ys h; cases h; rfl
                | cons n l ih => intro ys h; cases h with | cons a b => cases a; rw [ih _ b]; rfl
              rw [this _ _ hn] at hq
              exact hq
theorem Tk.text_len {t : Tk} (h : t.Few) : t.text.length ≤ 24 := by
  cases t with
  | sign n => show (if n = 94 then [94, 94] else [n]).length ≤ 24; split <;> simp
  | fin => show 1 ≤ 24; decide
  | act w ns =>
    show (if isSmall w then [94, w] else [94, w, 40] ++ (TL.joinL [44] (ns.map TL.numL) ++ [41])).length ≤ 24
    split
    · simp
    · have := joinL_len (sep := [44]) (b := 4) (ls := ns.map TL.numL) fun l hl => by obtain ⟨n, hn, rfl⟩ := List.mem_map.mp hl; exact numL_len4 (h.2 n hn)
      rw [List.length_map] at this
      have h4 : ns.length ≤ 4 := h.1
      have hl1 : ([44] : List Nat).length = 1 := rfl
      rw [hl1] at this
      simp
      omega
theorem lawText_len {ts : List Tk} (h : ∀ t ∈ ts, t.Few) : (lawText ts).length ≤ 30 * ts.length := by
  unfold lawText
  induction ts with
  | nil => simp
  | cons t ts ih =>
    rw [List.flatMap_cons, List.length_append, List.length_cons, Nat.mul_succ]
    have := Tk.text_len (h t List.mem_cons_self)
    have := ih fun x hx => h x (List.mem_cons_of_mem _ hx)
    omega
theorem getD_mem {α : Type} {l : List α} {i : Nat} {d : α} (h : i < l.length) : l.getD i d ∈ l := by
  rw [List.getD_eq_getElem?_getD, List.getElem?_eq_getElem h]; exact List.getElem_mem h
theorem getD_map {α β : Type} {l : List α} {i : Nat} {d : α} {e : β} {f : α → β} (h : i < l.length) : (l.map f).getD i e = f (l.getD i d) := by
  rw [List.getD_eq_getElem?_getD, List.getD_eq_getElem?_getD, List.getElem?_map, List.getElem?_eq_getElem h]; rfl
theorem take_getD {α : Type} {l : List α} {i : Nat} {d : α} (h : i < l.length) : l.take (i + 1) = l.take i ++ [l.getD i d] := by
  rw [List.take_succ, List.getD_eq_getElem?_getD, List.getElem?_eq_getElem h]; rfl
/-- ','.join([str(n) for n in ns]) -/
theorem x_nums {σ : L2.St} {H F : Hp} {L : List (Addr × HO)} {Q : VK} {te : TE} {q : Addr} {ns : List Nat} {k : Nat} (W : Hold F L H) (hq : SqT c.K F q (ns.map fun (n : Nat) => V.int n)) (hn : ns.length ≤ 4 ∧ ∀ n ∈ ns, n ≤ 9999) (hk : k < σ.length)
    (hte : ∀ R : VK, R (.ref q) H → te σ H R) (kk : ∀ F' H', Same F F' → Hold F' L H' → Q (.str (T (TL.joinL [44] (ns.map TL.numL)))) H') :
    tM1 (u_join c.K) (tC (.str ⟨#[44]⟩)) (tLc (iTup c.K te) (gName k) tYes (tCB uStr (tCons (tVar k) tNil)) [k]) σ H Q := by
  walk_at "r"
  refine hte _ ?_
  refine x_itup' (W.gr.sqT hq) ?_
  refine x_lcOk (F := F) (ItOk.tup hq) W (by simp; omega) (fun i v _ => v = .str (T (TL.numL (ns.getD i 0)))) (fun _ _ _ _ _ h => h) (fun d i F' H' QQ hi s W' kq => ?_) gm_name (fun D ys F' H' s hlen hv W' => ?_)
  · refine ⟨wipe1, ?_⟩
    have hi' : i < ns.length := by simpa using hi
    rw [getD_map (d := 0) hi']
    walk_at "r"
    refine x_var (by rw [List.getElem?_set_self (by rw [wipe_length]; exact hk)]) ?_
    walk_at "r"
    refine l_strN ?_ (kq _ F' H' (Same.refl F') W' rfl)
    have := hn.2 _ (getD_mem (d := 0) hi')
    exact Nat.lt_of_le_of_lt this (by decide)
  · have ey : ys = (ns.map TL.numL).map fun l => .str (T l) := by
      refine List.ext_getElem? fun j => ?_
      by_cases hj : j < ns.length
      · have a1 := hv j (by simpa using hj)
        have hjy : j < ys.length := by rw [hlen]; simpa using hj
        rw [List.getD_eq_getElem?_getD, List.getElem?_eq_getElem hjy, List.getD_eq_getElem?_getD, List.getElem?_eq_getElem hj] at a1
        rw [List.getElem?_eq_getElem hjy, List.getElem?_map, List.getElem?_map, List.getElem?_eq_getElem hj]
        exact congrArg some a1
      · rw [List.getElem?_eq_none (by rw [hlen]; simpa using hj), List.getElem?_eq_none (by simpa using hj)]
    rw [ey] at W'
    refine l_join 4 (.inl (sq_of W'.get0)) (fun l hl => ?_) (by simp; omega) (kk F' H' s W'.drop)
    obtain ⟨n, hm, rfl⟩ := List.mem_map.mp hl
    exact numL_len4 (hn.2 n hm)
theorem rd__law_text : RD N__law_text (t__law_text c) (sp__law_text c) := by
  rintro vs H Q E ⟨a, xs, ts, F, L, rfl, hs, hd, hf, hl, W, kk⟩
  unfold t__law_text
  walk_at "r"
  refine n_lstL W (sz rfl) fun p0 H0 W0 => ?_
  walk_at "r"
  have hxl := dpAll_len hd
  rw [List.length_map] at hxl
  refine x_ilist' (W0.gr.sqL hs) ?_
  refine x_forOk (F := F) (ItOk.list hs) (fun i σ H' => ∃ s2 s3 F', σ = [some (.ref a), some (.ref p0), s2, s3] ∧ Same F F' ∧ Hold F' ((p0, .lst ((ts.take i).map fun t => .str (T t.text))) :: L) H')
    (fun i σ H' _ ⟨_, _, F', _, s, W'⟩ => (Gr.of s).trans W'.gr) ⟨none, none, F, rfl, Same.refl F, W0⟩ ?_ ?_
  · rintro i σ H' hi ⟨s2, s3, F', rfl, s, W'⟩
    have hi' : i < ts.length := by omega
    have hv := dpAll_get hd i (by simpa using hi')
    rw [getD_map (d := Tk.fin) hi'] at hv
    have hfew := hf _ (getD_mem (d := Tk.fin) hi')
    obtain ⟨b, hb, hvw⟩ := tk_view hv
    rw [hb]
    have fin : ∀ (l : List Nat) F4 H4 sl, Same F' F4 → l = (ts.getD i .fin).text → Hold F4 ((p0, .lst ((ts.take i).map fun t => .str (T t.text))) :: L) H4 → rAppend (.ref p0) [.str (T l)] H4 (fun _ H1 => ∃ s2 s3 F', [some (V.ref a), some (.ref p0), some (.ref b), sl] = [some (V.ref a), some (.ref p0), s2, s3] ∧ Same F F' ∧ Hold F' ((p0, .lst ((ts.take (i + 1)).map fun t => .str (T t.text))) :: L) H1) := by
      intro l F4 H4 sl s4 hl4 W4
      refine ⟨p0, _, _, rfl, rfl, W4.get0, szlt (by rw [List.length_map, List.length_take]; omega), some (.ref b), sl, F4, rfl, s.trans s4, ?_⟩
      rw [take_getD (d := Tk.fin) hi', List.map_append, List.map_cons, List.map_nil, ← hl4]
      exact W4.put0
    walk_at "r"
    cases ht : ts.getD i .fin with
    | sign n =>
      rw [ht] at hvw fin
      refine l_ixT (W'.gr.sqT ((Gr.of s).sqT hvw)) rfl ?_
      walk_at "r"
      refine wT (decide_eq_true rfl) ?_
      walk_at "r"
      refine x_tylst (sq_of W'.get0) ?_
      walk_at "r"
      show tOp (uIx c.K) (tVar 2) (tC (.int 1)) _ _ _
      walk_at "r"
      refine l_ixT (W'.gr.sqT ((Gr.of s).sqT hvw)) rfl ?_
      refine ⟨T [n], rfl, by show 1 + (1 + 1) * 2 ≤ 16777216; decide, ?_⟩
      walk_at "r"
      have e : Txt.replace (T [n]) ⟨#[94]⟩ ⟨#[94, 94]⟩ = T (Tk.sign n).text := by
        refine TL.ext_tl ?_
        have z := PySem.StrLaws.replace_list (x := T [n]) (y := ⟨#[94]⟩) (z := ⟨#[94, 94]⟩) (by decide)
        rw [TL.tl_mk]
        refine z.trans ?_
        show _ = (if n = 94 then [94, 94] else [n])
        by_cases h : n = 94
        · subst h; rfl
        · rw [if_neg h]
          simp [PySem.StrLaws.replL, PySem.StrLaws.replS, TL.pre, h]
      rw [e]
      exact fin _ F' H' _ (Same.refl F') rfl W'
    | fin =>
      rw [ht] at hvw fin
      refine l_ixT (W'.gr.sqT ((Gr.of s).sqT hvw)) rfl ?_
      walk_at "r"
      refine wF (decide_eq_false (by decide)) ?_
      walk_at "r"
      refine l_ixT (W'.gr.sqT ((Gr.of s).sqT hvw)) rfl ?_
      walk_at "r"
      refine wT (decide_eq_true rfl) ?_
      walk_at "r"
      refine x_tylst (sq_of W'.get0) ?_
      walk_at "r"
      exact fin [10] F' H' _ (Same.refl F') rfl W'
    | act w ns =>
      rw [ht] at hvw fin hfew
      obtain ⟨q, h1, h2⟩ := hvw
      refine l_ixT (W'.gr.sqT ((Gr.of s).sqT h1)) rfl ?_
      walk_at "r"
      refine wF (decide_eq_false (by decide)) ?_
      walk_at "r"
      refine l_ixT (W'.gr.sqT ((Gr.of s).sqT h1)) rfl ?_
      walk_at "r"
      refine wF (decide_eq_false (by decide)) ?_
      walk_at "r"
      refine l_ixT (W'.gr.sqT ((Gr.of s).sqT h1)) rfl ?_
      walk_at "r"
      rw [isSmall_mem']
      refine w2 (fun hsm => ?_) (fun hsm => ?_)
      · walk_at "r"
        refine x_tylst (sq_of W'.get0) ?_
        walk_at "r"
        refine l_ixT (W'.gr.sqT ((Gr.of s).sqT h1)) rfl ?_
        refine l_addX (by show 1 + 1 ≤ 1000000; decide) ?_
        walk_at "r"
        exact fin _ F' H' _ (Same.refl F') (by show _ = (if isSmall w then [94, w] else [94, w, 40] ++ (TL.joinL [44] (ns.map TL.numL) ++ [41])); rw [if_pos hsm]; rfl) W'
      · walk_at "r"
        refine x_tylst (sq_of W'.get0) ?_
        walk_at "r"
        refine l_ixT (W'.gr.sqT ((Gr.of s).sqT h1)) rfl ?_
        refine l_addX (by show 1 + 1 ≤ 1000000; decide) ?_
        walk_at "r"
        refine l_addX (by show 2 + 1 ≤ 1000000; decide) ?_
        refine x_nums (F := F') W' ((Gr.of s).sqT h2) hfew (by show 3 < 4; decide) (fun R hR => ?_) (fun F4 H4 s4 W4 => ?_)
        · walk_at "r"
          exact l_ixT (W'.gr.sqT ((Gr.of s).sqT h1)) rfl hR
        have hjl := joinL_len (sep := [44]) (b := 4) (ls := ns.map TL.numL) fun l hl => by obtain ⟨n, hn, rfl⟩ := List.mem_map.mp hl; exact numL_len4 (hfew.2 n hn)
        rw [List.length_map] at hjl
        have := hfew.1
        have hl1 : ([44] : List Nat).length = 1 := rfl
        rw [hl1] at hjl
        refine l_addX (by simp; omega) ?_
        walk_at "r"
        refine l_addX (by simp; omega) ?_
        walk_at "r"
        refine fin _ F4 H4 _ s4 ?_ W4
        show _ = (if isSmall w then [94, w] else [94, w, 40] ++ (TL.joinL [44] (ns.map TL.numL) ++ [41]))
        rw [if_neg (by rw [hsm]; decide)]
        simp
  · rintro σ H' ⟨s2, s3, F', rfl, s, W'⟩
    walk_at "r"
    rw [hxl, List.take_length] at W'
    have em : (ts.map fun t => V.str (T t.text)) = (ts.map Tk.text).map fun l => V.str (T l) := by rw [List.map_map]; rfl
    rw [em] at W'
    refine l_join 30 (.inl (sq_of W'.get0)) (fun l hl => ?_) (by simp; omega) ?_
    · obtain ⟨t, ht, rfl⟩ := List.mem_map.mp hl
      exact Nat.le_trans (Tk.text_len (hf t ht)) (by decide)
    · rw [joinL_nil]
      have := kk F' H' s W'.drop
      unfold lawText at this
      rw [List.flatMap_def] at this
      exact this
end
end Ss
/-! ## A lambda without parameters handed to _law_told -/
namespace Ss
open PySem PySem.Spec PyProof.Rows L2 LamX
/-- told, where nothing is raised -/
def TT0 : (XK → Hp → VK → Prop) → Hp → VK → Prop := fun tl H Q => tl (fun _ _ _ => False) H Q
theorem told0_gives {X : Cx} {Ng : List Str} {x a e q n : Str} {sg : Scope} {g CS : Addr} {cdg : Value} {p1 p2 p3 p4 p7 p8 : Pos} {b₀ : Stmt} {suite : List Stmt} (hN : Ng.Nodup) (hi : Ng[1]? = some n) (hln : sg.names.lookup n = some .local)
    (hge : sg.names.lookup e = some .globalImplicit) (hme : X.mg e = some (.ref CS)) (hde : (e == ("__debug__" : Str)) = false) (h0 : ∀ f : Addr, (L2.start Ng [V.ref f])[0]? = some (some (V.ref f))) :
    GivesTo X Ng x sg g cdg [.Try [.Return (some (.Call (.Name a p1) [] [] p2)) p3] [.ExceptHandler (some (.Name e p4)) (some n) (b₀ :: suite) p7] [] [] p8] a q TT0 := by
  intro f c' s H Q tl act hc h
  have hgl : Gl (cxOf C8.CX0 X.prog X.w X.K X.mg X.base Ng x sg g cdg X.A X.stack s H C8.E0).nox e := hge
  refine ⟨_, pss_one (L2.ps_try_as (X := (cxOf C8.CX0 X.prog X.w X.K X.mg X.base Ng x sg g cdg X.A X.stack s H C8.E0).nox) (c := .ref CS) (i := 1) (Wout := fun _ _ _ _ => False)
      (tb := fun W D σ H => ∃ Ech : XK, (∀ cls d σ' H', Ech cls d H' → W cls d σ' H') ∧ σ[0]? = some (some (.ref f)) ∧ H c' = some (CodeO c' q) ∧ tl Ech H D.rt)
      rfl rfl hN hi hln ⟨hgl, hde, .inl hme⟩ LamX.takes0 (fun W pn xe tk _ => ?_) (fun a oe cls d pn _ _ => pss_never)), ?_⟩
  · refine ⟨fun pins s' σ H' D I h' => ?_⟩
    obtain ⟨Ech, hW, h1, h2, h3⟩ := h'
    have hp := act W pn xe Ech p1 p2 tk hW
    have hq := pss_one (ps_ret (pos := p3) hp)
    exact hq.run pins s' σ H' D I ⟨h1, h2, h3⟩
  · exact ⟨fun _ _ _ => False, fun cls d σ' H' z => z.elim, h0 f, hc, h⟩
/-- the def _law_told, wherever it stands -/
structure ToldOk (P : Program) (w : World) (K : PySem.W.Frag) (mg : Str → Option Value) (pg : Arguments) (bg : List Stmt) (sg : Scope) : Prop where
  ex : ∃ (g : Addr) (oc : Value) (od : Option Addr) (dV kV doc pm : Value) (an : Option Addr) (cdv ct : Value) (osl : Array (Option Value)), mg "_law_told" = some (.ref g) ∧ PySem.W.keepIn K (.ref g) = true ∧
    K.lookup g = some ⟨oc, od, .func (PySem.W.fnOf "_law_told" "_law_told" pg bg sg dV kV doc pm an cdv ct), osl⟩ ∧ PySem.W.codeIn K cdv "_law_told" = true ∧ L2.Binds K (PySem.W.fnOf "_law_told" "_law_told" pg bg sg dV kV doc pm an cdv ct) ["_law_deed"] []
  gives : ∀ (X : Cx), X.mg = mg → ∀ (g : Addr) (cdg : Value) (q : Str), GivesTo X ["_law_deed", "_law_e"] "_law_told" sg g cdg bg "_law_deed" q TT0
  sc : FnScope ["_law_deed", "_law_e"] ["_law_deed"] sg
  vis : Vis sg "_law_deed"
theorem pe_told {X : Cx} {T : List (Addr × Str)} {pg : Arguments} {bg : List Stmt} {sg : Scope} {c P : Addr} {k k' : Nat} {params : Arguments} {body : Expr} {scope : Scope} {t : XK → TE} {p lpos pos : Pos} (D : ToldOk X.prog X.w X.K X.mg pg bg sg)
    (TB : TabB X.base X.mg c P) (hcode : X.env.code = .ref c) (hT : T = [(P, X.env.qual ++ "<lambda>")]) (hr : Room k' X.A) (L : LamS X.env.scope scope) (hdef : defaultsOf params X.env = ([], []))
    (hbind : ∀ (q : Str) (cl : List (Str × Addr)) (pm cv ctv : Value), bindArgs (PySem.W.kla_fn "<lambda>" q params body scope cl pm cv ctv) ⟨[], []⟩ = pure [])
    (hbody : ∀ (A : Around) (outer : List Env) (s : Shared) (H : Hp) (E : XK) (f c' : Addr), Room k (A.deeper (lamEnv X scope s.heap.objs.size f c')) → PE (lamCx X A outer s H E scope f c') body (t E))
    (hk : k + 2 ≤ k' := by decide) (hg : Gl X "_law_told" := by rfl) : PE X (.Call (.Name "_law_told" p) [.Lambda params body scope lpos] [] pos) (tLam T TT0 t) := by
  obtain ⟨g, oc, od, dV, kV, doc, pm, an, cdv, ct, osl, h1, h2, h3, h4, h5⟩ := D.ex
  subst hT
  exact pe_lamcall hg h1 h2 h3 h4 h5 D.sc rfl D.vis (D.gives X rfl g cdv _) TB hcode (List.mem_singleton.mpr rfl) (fun p hp _ => by rw [List.mem_singleton.mp hp]) (hr.mono hk) L hdef hbind hbody
/-- what may be one's own when a lambda is made -/
def Plain : HO → Prop
  | .lst _ => True
  | .ins _ _ _ => True
  | .dK _ => True
  | .dT _ => True
  | _ => False
theorem x_lam {T : List (Addr × Str)} {t : XK → TE} {σ : L2.St} {F H : Hp} {L : List (Addr × HO)} {Q : VK} (W : Hold F L H) (hL : ∀ x ∈ L, Plain x.2) (tb : Tabs T F)
    (k : ∀ F1 H1, Gr F F1 → Tabs T F1 → Hold F1 L H1 → t (fun _ _ _ => False) σ H1 Q) : tLam T TT0 t σ H Q := by
  refine ⟨tb.ext W.old, fun H1 eN T1 => ?_⟩
  refine k (fun b => if b ∈ L.map (·.1) then none else H1 b) H1 (fun b o e n => ?_) (fun p hp => ?_) ?_
  · have hb : b ∉ L.map (·.1) := fun hm => by
      obtain ⟨x, hx, rfl⟩ := List.mem_map.mp hm
      rw [W.sep x hx] at e; cases e
    show (if b ∈ L.map (·.1) then none else H1 b) = some o
    rw [if_neg hb]
    exact eN b o (W.old b o e) n
  · obtain ⟨ps, h1, h2, h3⟩ := T1 p hp
    have nL : ∀ b o, H1 b = some o → ¬ Plain o → b ∉ L.map (·.1) := fun b o e hn hm => by
      obtain ⟨x, hx, rfl⟩ := List.mem_map.mp hm
      have pl := hL x hx
      have z := eN x.1 x.2 (W.own x hx) (fun ps q => by rw [q] at pl; exact pl)
      rw [e] at z
      cases z
      exact hn pl
    refine ⟨ps, ?_, h2, fun pos cv hc => ?_⟩
    · show (if p.1 ∈ L.map (·.1) then none else H1 p.1) = _
      rw [if_neg (nL _ _ h1 (fun z => z))]; exact h1
    · obtain ⟨c, e1, e2⟩ := h3 pos cv hc
      refine ⟨c, e1, ?_⟩
      show (if c ∈ L.map (·.1) then none else H1 c) = _
      rw [if_neg (nL _ _ e2 (fun z => by unfold CodeO at z; exact z))]; exact e2
  · refine ⟨fun b o e => ?_, fun x hx => ?_, fun x hx => ?_, W.nd⟩
    · have e' : (if b ∈ L.map (·.1) then none else H1 b) = some o := e
      by_cases hb : b ∈ L.map (·.1)
      · rw [if_pos hb] at e'; cases e'
      · rw [if_neg hb] at e'; exact e'
    · exact eN x.1 x.2 (W.own x hx) (fun ps q => by have := hL x hx; rw [q] at this; exact this)
    · show (if x.1 ∈ L.map (·.1) then none else H1 x.1) = none
      rw [if_pos (List.mem_map_of_mem hx)]
end Ss
/-! ## law k10: the defs beside the common ones -/
namespace Ss
open PySem PySem.Spec PyProof.Rows L2
open Ss in
local macro_rules | `(tactic| walk_at "fg") => `(tactic| first | with_reducible exact fsReader_g0 | with_reducible exact fsReader_g1)
open Ss in
local macro_rules | `(tactic| walk_at "r") => `(tactic| repeat (first
  | with_reducible refine x_seq ?_ | with_reducible refine x_asg ?_ | with_reducible refine x_var rfl ?_ | with_reducible refine x_c ?_ | with_reducible refine x_op ?_ | with_reducible refine x_name ?_ | with_reducible refine x_gcons ?_ | with_reducible refine x_gnil ?_
  | with_reducible refine x_cons ?_ | with_reducible refine x_nil ?_ | with_reducible refine x_cb ?_ | with_reducible refine x_ifs ?_ | with_reducible refine x_test ?_ | with_reducible refine x_bl ?_
  | with_reducible refine g_addNN ?_ | with_reducible refine g_addNL ?_ | with_reducible refine g_addLN ?_ | with_reducible refine l_addI ?_ | with_reducible refine l_subI ?_ | with_reducible refine g_ltNL ?_ | with_reducible refine l_ltI ?_ | with_reducible refine l_leI ?_ | with_reducible refine l_gtI ?_ | with_reducible refine l_geI ?_ | with_reducible refine l_eqX ?_ | with_reducible refine l_neX ?_ | with_reducible refine g_eqNL ?_ | with_reducible refine l_eqII ?_ | with_reducible refine l_neII ?_ | with_reducible refine l_eq rfl ?_ | with_reducible refine l_ne rfl ?_
  | with_reducible refine x_fld ?_ | with_reducible refine x_ret ?_ | with_reducible refine x_drop ?_ | with_reducible refine x_next ?_ | with_reducible refine x_tup ?_ | with_reducible refine x_lst ?_ | with_reducible refine x_f ?_ | with_reducible refine x_o ?_ | with_reducible refine x_n ?_
  | with_reducible refine x_bm ?_ | with_reducible refine x_bm0 ?_ | with_reducible refine x_m1 ?_ | with_reducible refine x_m0 ?_ | with_reducible refine x_isstr ?_ | with_reducible refine x_tystr ?_ | with_reducible refine x_sl ?_ | with_reducible refine x_part ?_ | with_reducible refine x_part' ?_ | with_reducible refine x_nopart ?_
  | with_reducible refine x_sfld ?_ | with_reducible refine x_if ?_ | with_reducible refine x_isty ?_ | with_reducible refine x_chain ?_ | with_reducible refine x_andV ?_ | with_reducible refine x_orV ?_ | with_reducible refine x_notV ?_ | with_reducible refine x_B ?_ | with_reducible refine x_and ?_ | with_reducible refine x_or ?_ | with_reducible refine x_not ?_ | with_reducible refine x_tru ?_ | with_reducible refine x_yes ?_
  | with_reducible refine x_un ?_ | with_reducible refine x_neg ?_ | with_reducible refine x_par ?_ | with_reducible refine x_par' ?_ | with_reducible refine x_retN ?_ | with_reducible refine x_brk ?_ | with_reducible refine x_cont ?_ | with_reducible refine x_rz ?_
  | with_reducible refine l_leS ?_ | with_reducible refine l_ltS ?_ | with_reducible refine l_inX ?_ | with_reducible refine l_niX ?_ | with_reducible refine l_inS ?_ | with_reducible refine l_niS ?_ | with_reducible refine l_count ?_ | with_reducible refine l_ord ?_ | with_reducible refine l_max ?_ | with_reducible refine l_min ?_ | with_reducible refine l_intI ?_ | with_reducible refine l_intB ?_ | with_reducible refine l_is ?_ | with_reducible refine l_isn ?_
  | with_reducible refine g_modNL (by decide) ?_ | with_reducible refine g_divNL (by decide) (by decide) ?_ | with_reducible refine l_modI (by decide) ?_ | with_reducible refine x_for ?_ | with_reducible refine x_lc ?_ | with_reducible refine x_ilist ?_ | with_reducible refine x_itup ?_ | with_reducible refine x_istr ?_ | with_reducible refine x_istr' ?_ | with_reducible refine x_irng1 ?_ | with_reducible refine x_irng2 ?_
  | (with_reducible refine x_get (by first | assumption | exact Hold.get0 (by assumption) | exact Hold.get1 (by assumption)) (by assumption) (by assumption) (by walk_at "fg") ?_)
  | (with_reducible refine x_ao (by first | assumption | exact Hold.get0 (by assumption) | exact Hold.get1 (by assumption)) (by kernel_rfl) ?_)))
def sp_written (c : Ctx) : Sp := fun vs H Q _ => ∃ a xs ts F L, vs = [.ref a] ∧ SqL c.K F a xs ∧ DpAll c.K F xs (List.map Tk.data ts) ∧ (∀ t ∈ ts, t.Few) ∧ ts.length ≤ 10000 ∧ Hold F L H ∧ ∀ F' H', Same F F' → Hold F' L H' → Q (.str (T (lawText ts))) H'
def broken (i : Nat) : List Nat := [[94], [94, 65], [94, 71, 40], [94, 71, 40, 49], [94, 71, 40, 49, 44], [94, 71, 40, 49, 50, 51, 52], [94, 90, 40, 49, 44, 50, 44, 51, 44, 52], [94, 78, 40, 57, 57, 57, 57], [94, 88, 40, 48]].getD i []
def sp__law_broken (c : Ctx) : Sp := fun vs H Q _ => ∃ m F L, vs = [.int ((m : Nat) : Int)] ∧ Hold F L H ∧ ∀ (r : Addr) F' H', Same F F' → F' r = some (.tup [.str (T (broken (m % 9))), .int ((broken (m % 9)).length : Nat)]) → Hold F' L H' → Q (.ref r) H'
def t_written (c : Ctx) (E : XK) : TS :=
  (tSeq (tAsg (tC (.str ⟨#[]⟩)) (gName 1))
  (tSeq (tFor (iList c.K (tVar 0)) (gName 2) (tIfS (tTest (tOp (uEq c.K) (tOp (uIx c.K) (tVar 2) (tC (.int 0))) (tC (.str ⟨#[101, 110, 100]⟩)))) (tAsg (tOp (uAdd c.K) (tVar 1) (tC (v_GAP c))) (gName 1)) (tIfS (tTest (tOp (uEq c.K) (tOp (uIx c.K) (tVar 2) (tC (.int 0))) (tC (.str ⟨#[115, 105, 103, 110]⟩)))) (tAsg (tOp (uAdd c.K) (tVar 1) (tIf (tTest (tOp (uEq c.K) (tOp (uIx c.K) (tVar 2) (tC (.int 1))) (tC (.str ⟨#[94]⟩)))) (tC (.str ⟨#[94, 94]⟩)) (tOp (uIx c.K) (tVar 2) (tC (.int 1))))) (gName 1)) (tIfS (tTest (tOp (uIn c.K) (tOp (uIx c.K) (tVar 2) (tC (.int 1))) (tC (v_SMALL c)))) (tAsg (tOp (uAdd c.K) (tOp (uAdd c.K) (tVar 1) (tC (.str ⟨#[94]⟩))) (tOp (uIx c.K) (tVar 2) (tC (.int 1)))) (gName 1)) (tAsg (tOp (uAdd c.K) (tOp (uAdd c.K) (tOp (uAdd c.K) (tOp (uAdd c.K) (tOp (uAdd c.K) (tVar 1) (tC (.str ⟨#[94]⟩))) (tOp (uIx c.K) (tVar 2) (tC (.int 1)))) (tC (.str ⟨#[40]⟩))) (tM1 (u_join c.K) (tC (.str ⟨#[44]⟩)) (tLc (iTup c.K (tOp (uIx c.K) (tVar 2) (tC (.int 2)))) (gName 3) tYes (tCB uStr (tCons (tVar 3) tNil)) [3]))) (tC (.str ⟨#[41]⟩))) (gName 1))))))
  (tRet (tVar 1))))
abbrev N_written : List Str := ["row", "found", "one", "number"]

def t__law_broken (c : Ctx) (E : XK) : TS :=
  (tSeq (tAsg (tLst (tCons (tC (.str ⟨#[94]⟩)) (tCons (tC (.str ⟨#[94, 65]⟩)) (tCons (tC (.str ⟨#[94, 71, 40]⟩)) (tCons (tC (.str ⟨#[94, 71, 40, 49]⟩)) (tCons (tC (.str ⟨#[94, 71, 40, 49, 44]⟩)) (tCons (tSl (uSl c.K) (tC (.str ⟨#[94, 71, 40, 49, 50, 51, 52, 53]⟩)) tNoPart (tPart (tC (.int 7)))) (tCons (tC (.str ⟨#[94, 90, 40, 49, 44, 50, 44, 51, 44, 52]⟩)) (tCons (tC (.str ⟨#[94, 78, 40, 57, 57, 57, 57]⟩)) (tCons (tC (.str ⟨#[94, 88, 40, 48]⟩)) tNil)))))))))) (gName 1))
  (tSeq (tAsg (tOp (uIx c.K) (tVar 1) (tOp uMod (tVar 0) (tCB (uLen c.K) (tCons (tVar 1) tNil)))) (gName 2))
  (tRet (tTup (tCons (tVar 2) (tCons (tCB (uLen c.K) (tCons (tVar 2) tNil)) tNil))))))
abbrev N__law_broken : List Str := ["_law_more", "_law_some", "_law_found"]

section
variable {c : Ctx}
theorem rd__law_broken : RD N__law_broken (t__law_broken c) (sp__law_broken c) := by
  rintro vs H Q E ⟨m, F, L, rfl, W, kk⟩
  unfold t__law_broken
  walk_at "r"
  refine l_slX (by decide) ?_
  walk_at "r"
  refine n_lstF W (sz rfl) fun p1 F1 H1 s1 h1 W1 => ?_
  walk_at "r"
  refine l_lenL (sq_of (W1.old _ _ h1)) ?_
  refine g_modNN (by decide) ?_
  have h9 : m % 9 < 9 := Nat.mod_lt _ (by decide)
  refine g_ixL (sq_of (W1.old _ _ h1)) h9 ?_
  have e : ∀ i, i < 9 → [V.str (T [94]), V.str (T [94, 65]), V.str (T [94, 71, 40]), V.str (T [94, 71, 40, 49]), V.str (T [94, 71, 40, 49, 44]), V.str (T (cutL [94, 71, 40, 49, 50, 51, 52, 53] none (some 7))), V.str (T [94, 90, 40, 49, 44, 50, 44, 51, 44, 52]), V.str (T [94, 78, 40, 57, 57, 57, 57]), V.str (T [94, 88, 40, 48])].getD i .non = .str (T (broken i)) := by decide +kernel
  show gName 2 ([V.str (T [94]), V.str (T [94, 65]), V.str (T [94, 71, 40]), V.str (T [94, 71, 40, 49]), V.str (T [94, 71, 40, 49, 44]), V.str (T (cutL [94, 71, 40, 49, 50, 51, 52, 53] none (some 7))), V.str (T [94, 90, 40, 49, 44, 50, 44, 51, 44, 52]), V.str (T [94, 78, 40, 57, 57, 57, 57]), V.str (T [94, 88, 40, 48])].getD (m % 9) .non) _ _ _
  rw [e _ h9]
  have hb : ∀ i, i < 9 → (broken i).length ≤ 1000 := by decide +kernel
  walk_at "r"
  refine l_lenX (Nat.le_trans (hb _ h9) (by decide)) ?_
  walk_at "r"
  refine n_tupF W1 (sz rfl) fun p2 F2 H2 s2 h2 W2 => ?_
  exact kk p2 F2 H2 (s1.trans s2) h2 W2
theorem rd_written : RD N_written (t_written c) (sp_written c) := by
  rintro vs H Q E ⟨a, xs, ts, F, L, rfl, hs, hd, hf, hl, W, kk⟩
  unfold t_written
  walk_at "r"
  have hxl := dpAll_len hd
  rw [List.length_map] at hxl
  refine x_ilist' (W.gr.sqL hs) ?_
  refine x_forOk (F := F) (ItOk.list hs) (fun i σ H' => ∃ s2 s3 F', σ = [some (.ref a), some (.str (T (lawText (ts.take i)))), s2, s3] ∧ Same F F' ∧ Hold F' L H')
    (fun i σ H' _ ⟨_, _, F', _, s, W'⟩ => (Gr.of s).trans W'.gr) ⟨none, none, F, rfl, Same.refl F, W⟩ ?_ ?_
  · rintro i σ H' hi ⟨s2, s3, F', rfl, s, W'⟩
    have hi' : i < ts.length := by omega
    have hv := dpAll_get hd i (by simpa using hi')
    rw [getD_map (d := Tk.fin) hi'] at hv
    have hfew := hf _ (getD_mem (d := Tk.fin) hi')
    obtain ⟨b, hb, hvw⟩ := tk_view hv
    rw [hb]
    have hsofar : (lawText (ts.take i)).length ≤ 300000 := by
      have := lawText_len (ts := ts.take i) fun t ht => hf t (List.mem_of_mem_take ht)
      rw [List.length_take] at this
      omega
    have fin : ∀ (l : List Nat) F4 H4 sl, Same F' F4 → l = lawText (ts.take i) ++ (ts.getD i .fin).text → Hold F4 L H4 → ∃ s2 s3 F', [some (V.ref a), some (.str (T l)), some (.ref b), sl] = [some (V.ref a), some (.str (T (lawText (ts.take (i + 1))))), s2, s3] ∧ Same F F' ∧ Hold F' L H4 := by
      intro l F4 H4 sl s4 hl4 W4
      refine ⟨some (.ref b), sl, F4, ?_, s.trans s4, W4⟩
      rw [take_getD (d := Tk.fin) hi', hl4]
      have : lawText (ts.take i ++ [ts.getD i .fin]) = lawText (ts.take i) ++ (ts.getD i .fin).text := by simp [lawText]
      rw [this]
    walk_at "r"
    cases ht : ts.getD i .fin with
    | sign n =>
      rw [ht] at hvw fin
      refine l_ixT (W'.gr.sqT ((Gr.of s).sqT hvw)) rfl ?_
      walk_at "r"
      refine wF (decide_eq_false (by decide)) ?_
      walk_at "r"
      refine l_ixT (W'.gr.sqT ((Gr.of s).sqT hvw)) rfl ?_
      walk_at "r"
      refine wT (decide_eq_true rfl) ?_
      walk_at "r"
      refine l_ixT (W'.gr.sqT ((Gr.of s).sqT hvw)) rfl ?_
      walk_at "r"
      refine wD (fun h => ?_) (fun h => ?_)
      · have h94 : n = 94 := one1.mp h
        walk_at "r"
        refine l_addX (by simp; omega) ?_
        walk_at "r"
        exact fin _ F' H' _ (Same.refl F') (by subst h94; rfl) W'
      · have h94 : n ≠ 94 := fun z => h (one1.mpr z)
        walk_at "r"
        refine l_ixT (W'.gr.sqT ((Gr.of s).sqT hvw)) rfl ?_
        refine l_addX (by simp; omega) ?_
        walk_at "r"
        refine fin _ F' H' _ (Same.refl F') ?_ W'
        show _ = _ ++ (if n = 94 then [94, 94] else [n])
        rw [if_neg h94]
    | fin =>
      rw [ht] at hvw fin
      refine l_ixT (W'.gr.sqT ((Gr.of s).sqT hvw)) rfl ?_
      walk_at "r"
      refine wT (decide_eq_true rfl) ?_
      walk_at "r"
      refine l_addX (by simp; omega) ?_
      walk_at "r"
      exact fin _ F' H' _ (Same.refl F') rfl W'
    | act w ns =>
      rw [ht] at hvw fin hfew
      obtain ⟨q, h1, h2⟩ := hvw
      refine l_ixT (W'.gr.sqT ((Gr.of s).sqT h1)) rfl ?_
      walk_at "r"
      refine wF (decide_eq_false (by decide)) ?_
      walk_at "r"
      refine l_ixT (W'.gr.sqT ((Gr.of s).sqT h1)) rfl ?_
      walk_at "r"
      refine wF (decide_eq_false (by decide)) ?_
      walk_at "r"
      refine l_ixT (W'.gr.sqT ((Gr.of s).sqT h1)) rfl ?_
      walk_at "r"
      rw [isSmall_mem']
      refine w2 (fun hsm => ?_) (fun hsm => ?_)
      · walk_at "r"
        refine l_addX (by simp; omega) ?_
        walk_at "r"
        refine l_ixT (W'.gr.sqT ((Gr.of s).sqT h1)) rfl ?_
        refine l_addX (by simp; omega) ?_
        walk_at "r"
        refine fin _ F' H' _ (Same.refl F') ?_ W'
        show _ = _ ++ (if isSmall w then [94, w] else [94, w, 40] ++ (TL.joinL [44] (ns.map TL.numL) ++ [41]))
        rw [if_pos hsm]; simp
      · walk_at "r"
        refine l_addX (by simp; omega) ?_
        walk_at "r"
        refine l_ixT (W'.gr.sqT ((Gr.of s).sqT h1)) rfl ?_
        refine l_addX (by simp; omega) ?_
        walk_at "r"
        refine l_addX (by simp; omega) ?_
        refine x_nums (F := F') W' ((Gr.of s).sqT h2) hfew (by show 3 < 4; decide) (fun R hR => ?_) (fun F4 H4 s4 W4 => ?_)
        · walk_at "r"
          exact l_ixT (W'.gr.sqT ((Gr.of s).sqT h1)) rfl hR
        have hjl := joinL_len (sep := [44]) (b := 4) (ls := ns.map TL.numL) fun l hl => by obtain ⟨n, hn, rfl⟩ := List.mem_map.mp hl; exact numL_len4 (hfew.2 n hn)
        rw [List.length_map] at hjl
        have h4 : ns.length ≤ 4 := hfew.1
        have hl1 : ([44] : List Nat).length = 1 := rfl
        rw [hl1] at hjl
        refine l_addX (by simp; omega) ?_
        walk_at "r"
        refine l_addX (by simp; omega) ?_
        walk_at "r"
        refine fin _ F4 H4 _ s4 ?_ W4
        show _ = _ ++ (if isSmall w then [94, w] else [94, w, 40] ++ (TL.joinL [44] (ns.map TL.numL) ++ [41]))
        rw [if_neg (by rw [hsm]; decide)]
        simp
  · rintro σ H' ⟨s2, s3, F', rfl, s, W'⟩
    walk_at "r"
    rw [hxl, List.take_length]
    exact kk F' H' s W'
end
end Ss
/-! ## What is written is told again (plain) -/
namespace Ss
open PySem PySem.Spec PyProof.Rows L2
/-- a thing that is told so -/
def Tk.Good : Tk → Prop
  | .sign n => isSign n = true ∧ n ≠ 10
  | .fin => True
  | .act w ns => (isSmall w = true ∧ ns = []) ∨ (isGreat w = true ∧ ns.length ≤ 4 ∧ ∀ n ∈ ns, n ≤ 9999)
theorem Tk.Good.few {t : Tk} (h : t.Good) : t.Few := by
  cases t with
  | sign n => trivial
  | fin => trivial
  | act w ns =>
    rcases h with ⟨_, rfl⟩ | ⟨_, h⟩
    · exact ⟨by simp, by simp⟩
    · exact h
theorem read_some {r : Rdr} {n : Nat} {p : Pre} {ts : List Tk} (h : r.pre.step n = some (p, ts)) : r.read n = (⟨p, r.lost⟩, ts) := by
  unfold Rdr.read
  have hp : r.pre ≠ .no := fun z => by rw [z] at h; cases h
  rw [if_neg hp, h]
theorem feed_cons (r : Rdr) (n : Nat) (l : List Nat) : r.feed (n :: l) = ((r.read n).1.feed l |>.1, (r.read n).2 ++ ((r.read n).1.feed l).2) := rfl
theorem feed_nil (r : Rdr) : r.feed [] = (r, []) := rfl
theorem step_fig {g : Nat} {ps : List (List Nat)} {la : List Nat} {n : Nat} (hn : isFig n = true) (hl : la.length < 4) : (Pre.op g ps la).step n = some (.op g ps (la ++ [n]), []) := by
  unfold Pre.step
  dsimp only
  rw [if_pos hn, if_pos hl]
theorem feed_figs {g : Nat} {ps : List (List Nat)} {k : Nat} : ∀ {l la : List Nat} (m : List Nat), (∀ x ∈ l, isFig x = true) → la.length + l.length ≤ 4 → Rdr.feed ⟨.op g ps la, k⟩ (l ++ m) = Rdr.feed ⟨.op g ps (la ++ l), k⟩ m
  | [], la, m, _, _ => by simp
  | n :: l, la, m, h, hl => by
    rw [List.length_cons] at hl
    rw [List.cons_append, feed_cons, read_some (step_fig (h n List.mem_cons_self) (by omega))]
    dsimp only
    rw [feed_figs (l := l) (la := la ++ [n]) m (fun x hx => h x (List.mem_cons_of_mem _ hx)) (by rw [List.length_append]; simp; omega)]
    simp
theorem feed_parts {g k : Nat} : ∀ {parts : List (List Nat)} {ps : List (List Nat)}, parts ≠ [] → (∀ p ∈ parts, p ≠ [] ∧ figsOk p) → ps.length + parts.length ≤ 4 →
    Rdr.feed ⟨.op g ps [], k⟩ (TL.joinL [44] parts ++ [41]) = (⟨.no, k⟩, [.act g ((ps ++ parts).map NumText.digitsVal)])
  | [], _, h, _, _ => absurd rfl h
  | [p], ps, _, h, hl => by
    have hp := h p List.mem_cons_self
    show Rdr.feed ⟨.op g ps [], k⟩ (p ++ [41]) = _
    rw [feed_figs [41] hp.2.2 (by simpa using hp.2.1), List.nil_append, feed_cons, read_some (p := .no) (ts := [.act g ((ps ++ [p]).map NumText.digitsVal)])]
    · rfl
    · unfold Pre.step
      dsimp only
      rw [if_neg (by decide), if_neg (by decide), if_pos ⟨rfl, .inl hp.1⟩, if_neg (fun z => hp.1 z.2)]
  | p :: q :: r, ps, _, h, hl => by
    have hp := h p List.mem_cons_self
    rw [List.length_cons, List.length_cons] at hl
    have e : TL.joinL [44] (p :: q :: r) ++ [41] = p ++ (44 :: (TL.joinL [44] (q :: r) ++ [41])) := by
      show (p ++ ([44] ++ TL.joinL [44] (q :: r))) ++ [41] = _
      simp
    rw [e, feed_figs _ hp.2.2 (by simpa using hp.2.1), List.nil_append, feed_cons, read_some (p := .op g (ps ++ [p]) []) (ts := [])]
    · dsimp only
      rw [feed_parts (parts := q :: r) (ps := ps ++ [p]) (by simp) (fun x hx => h x (List.mem_cons_of_mem _ hx)) (by simp; omega)]
      simp
    · unfold Pre.step
      dsimp only
      rw [if_neg (by decide), if_pos rfl, if_pos ⟨hp.1, by omega⟩]
theorem num_figs (n : Nat) (h : n ≤ 9999) : TL.numL n ≠ [] ∧ figsOk (TL.numL n) := ⟨TL.numL_ne n, numL_len4 h, fun x hx => by
  have := TL.numL_digits n x hx
  unfold isFig
  simp
  omega⟩
theorem feed_good {t : Tk} (h : t.Good) (k : Nat) : Rdr.feed ⟨.no, k⟩ t.text = (⟨.no, k⟩, [t]) := by
  cases t with
  | sign n =>
    show Rdr.feed ⟨.no, k⟩ (if n = 94 then [94, 94] else [n]) = _
    by_cases h94 : n = 94
    · subst h94; rfl
    · rw [if_neg h94, feed_cons]
      have e : Rdr.read ⟨.no, k⟩ n = (⟨.no, k⟩, [.sign n]) := by
        unfold Rdr.read
        rw [if_pos rfl]
        unfold plain
        rw [if_neg h94, if_neg h.2]
      rw [e]; rfl
  | fin => rfl
  | act w ns =>
    show Rdr.feed ⟨.no, k⟩ (if isSmall w then [94, w] else [94, w, 40] ++ (TL.joinL [44] (ns.map TL.numL) ++ [41])) = _
    rcases h with ⟨h1, rfl⟩ | ⟨h1, h2, h3⟩
    · rw [if_pos h1]
      have e : Rdr.feed ⟨.no, k⟩ [94, w] = (Rdr.feed ⟨.hat, k⟩ [w]) := rfl
      rw [e, feed_cons, read_some (p := .no) (ts := [.act w []])]
      · rfl
      · unfold Pre.step
        dsimp only
        rw [if_neg (fun z => by rw [z] at h1; exact absurd h1 (by decide)), if_pos h1]
    · have hns : isSmall w = false := by
        unfold isGreat at h1
        unfold isSmall
        simp at h1 ⊢
        omega
      rw [if_neg (by rw [hns]; decide)]
      have e : Rdr.feed ⟨.no, k⟩ ([94, w, 40] ++ (TL.joinL [44] (ns.map TL.numL) ++ [41])) = Rdr.feed ⟨.op w [] [], k⟩ (TL.joinL [44] (ns.map TL.numL) ++ [41]) := by
        have e1 : Rdr.feed ⟨.no, k⟩ ([94, w, 40] ++ (TL.joinL [44] (ns.map TL.numL) ++ [41])) = Rdr.feed ⟨.hat, k⟩ (w :: 40 :: (TL.joinL [44] (ns.map TL.numL) ++ [41])) := rfl
        rw [e1, feed_cons, read_some (p := .cap w) (ts := [])]
        · rw [feed_cons, read_some (p := .op w [] []) (ts := [])]
          · rfl
          · unfold Pre.step; dsimp only; rw [if_pos rfl]
        · unfold Pre.step
          dsimp only
          rw [if_neg (fun z => by rw [z] at h1; exact absurd h1 (by decide)), if_neg (by rw [hns]; decide), if_pos h1]
      rw [e]
      by_cases hn : ns = []
      · subst hn; rfl
      · rw [feed_parts (by simpa using hn) (fun p hp => by obtain ⟨n, hn, rfl⟩ := List.mem_map.mp hp; exact num_figs n (h3 n hn)) (by simpa using h2)]
        rw [List.nil_append, List.map_map]
        have : ns.map (NumText.digitsVal ∘ TL.numL) = ns := by
          refine (List.map_congr_left fun n _ => TL.numL_val n).trans ?_
          exact List.map_id _
        rw [this]
theorem feed_text {ts : List Tk} (h : ∀ t ∈ ts, t.Good) (k : Nat) : Rdr.feed ⟨.no, k⟩ (lawText ts) = (⟨.no, k⟩, ts) := by
  unfold lawText
  induction ts with
  | nil => rfl
  | cons t ts ih =>
    rw [List.flatMap_cons, feed_app, feed_good (h t List.mem_cons_self)]
    dsimp only
    rw [ih fun x hx => h x (List.mem_cons_of_mem _ hx)]
    rfl
/-- all signs of it are signs -/
theorem text_signs {t : Tk} (h : t.Good) : ∀ x ∈ t.text, isSign x = true := by
  have fig : ∀ n x, x ∈ TL.numL n → isSign x = true := fun n x hx => by
    have := TL.numL_digits n x hx
    unfold isSign
    simp
    omega
  have join : ∀ (ls : List (List Nat)), (∀ l ∈ ls, ∀ x ∈ l, isSign x = true) → ∀ x ∈ TL.joinL [44] ls, isSign x = true := by
    intro ls
    induction ls with
    | nil => intro _ x hx; cases hx
    | cons l ls ih =>
      intro hl x hx
      cases ls with
      | nil => exact hl l List.mem_cons_self x hx
      | cons m ls =>
        have hx' : x ∈ l ++ ([44] ++ TL.joinL [44] (m :: ls)) := hx
        rcases List.mem_append.mp hx' with hx | hx
        · exact hl l List.mem_cons_self x hx
        · rcases List.mem_append.mp hx with hx | hx
          · rw [List.mem_singleton.mp hx]; decide
          · exact ih (fun y hy => hl y (List.mem_cons_of_mem _ hy)) x hx
  cases t with
  | sign n =>
    intro x hx
    have hx' : x ∈ (if n = 94 then [94, 94] else [n]) := hx
    split at hx'
    · simp at hx'; rw [hx']; decide
    · rw [List.mem_singleton.mp hx']; exact h.1
  | fin => intro x hx; rw [List.mem_singleton.mp hx]; decide
  | act w ns =>
    intro x hx
    have hx' : x ∈ (if isSmall w then [94, w] else [94, w, 40] ++ (TL.joinL [44] (ns.map TL.numL) ++ [41])) := hx
    have hw : isSign w = true := by
      rcases h with ⟨h1, _⟩ | ⟨h1, _⟩
      · unfold isSmall at h1; unfold isSign; simp at h1 ⊢; omega
      · unfold isGreat at h1; unfold isSign; simp at h1 ⊢; omega
    split at hx'
    · rcases List.mem_cons.mp hx' with rfl | hx
      · decide
      · rw [List.mem_singleton.mp hx]; exact hw
    · rcases List.mem_append.mp hx' with hx | hx
      · rcases List.mem_cons.mp hx with rfl | hx
        · decide
        · rcases List.mem_cons.mp hx with rfl | hx
          · exact hw
          · rw [List.mem_singleton.mp hx]; decide
      · rcases List.mem_append.mp hx with hx | hx
        · exact join _ (fun l hl y hy => by obtain ⟨n, _, rfl⟩ := List.mem_map.mp hl; exact fig n y hy) x hx
        · rw [List.mem_singleton.mp hx]; decide
theorem lawText_signs {ts : List Tk} (h : ∀ t ∈ ts, t.Good) : ∀ x ∈ lawText ts, isSign x = true := fun x hx => by
  obtain ⟨t, ht, hx⟩ := List.mem_flatMap.mp hx
  exact text_signs (h t ht) x hx
/-! ### the laws' draws are good -/
theorem one_good (m : Nat) : (lawOne m).Good := by
  unfold lawOne
  split
  · have : ∀ i, i < 15 → isSign (oneSigns.getD i 0) = true ∧ oneSigns.getD i 0 ≠ 10 := by decide
    exact this _ (Nat.mod_lt _ (by decide))
  · split
    · trivial
    · split
      · have : ∀ i, i < 16 → isSmall (oneSmall.getD i 0) = true := by decide
        exact .inl ⟨this _ (Nat.mod_lt _ (by decide)), rfl⟩
      · have : ∀ i, i < 12 → isGreat (oneGreat.getD i 0) = true := by decide
        have hf := one_few m
        unfold lawOne at hf
        rw [if_neg (by assumption), if_neg (by assumption), if_neg (by assumption)] at hf
        exact .inr ⟨this _ (Nat.mod_lt _ (by decide)), hf⟩
theorem step_good (m j : Nat) : ∀ t ∈ lawStep m j, t.Good := by
  intro t ht
  unfold lawStep at ht
  rcases List.mem_append.mp ht with h | h
  · split at h
    · obtain ⟨n, _, rfl⟩ := List.mem_map.mp h
      have : ∀ i, i < 4 → isSign (runSigns.getD i 0) = true ∧ runSigns.getD i 0 ≠ 10 := by decide
      exact this _ (Nat.mod_lt _ (by decide))
    · cases h
  · rw [List.mem_singleton.mp h]; exact one_good _
theorem row_good (m many : Nat) : ∀ t ∈ lawRow m many, t.Good := by
  intro t ht
  obtain ⟨j, _, h⟩ := List.mem_flatMap.mp ht
  exact step_good m j t h
theorem lawText_app (a b : List Tk) : lawText (a ++ b) = lawText a ++ lawText b := by simp [lawText]
theorem step_text_len (m j : Nat) : (lawText (lawStep m j)).length ≤ 38 := by
  unfold lawStep
  rw [lawText_app, List.length_append]
  have h1 : (lawText [lawOne (drawn m j / 8)]).length ≤ 24 := by
    have := Tk.text_len (one_few (drawn m j / 8))
    simpa [lawText] using this
  have h2 : ∀ (l : List Nat), (lawText (l.map fun n => Tk.sign (runSigns.getD ((drawn m j / 8 + n) % 4) 0))).length ≤ l.length := by
    intro l
    induction l with
    | nil => simp [lawText]
    | cons n l ih =>
      have e : lawText ((n :: l).map fun n => Tk.sign (runSigns.getD ((drawn m j / 8 + n) % 4) 0)) = (Tk.sign (runSigns.getD ((drawn m j / 8 + n) % 4) 0)).text ++ lawText (l.map fun n => Tk.sign (runSigns.getD ((drawn m j / 8 + n) % 4) 0)) := by simp [lawText]
      rw [e, List.length_append, List.length_cons]
      have h3 : ∀ i, i < 4 → (Tk.sign (runSigns.getD i 0)).text.length = 1 := by decide
      rw [h3 _ (Nat.mod_lt _ (by decide))]
      omega
  split
  · have := h2 (List.range (drawn m j / 64 % 15))
    rw [List.length_range] at this
    omega
  · simp [lawText] at h1 ⊢; omega
theorem row_text_len (m many : Nat) : (lawText (lawRow m many)).length ≤ 38 * many := by
  have h : ∀ l : List Nat, (lawText (l.flatMap (lawStep m))).length ≤ 38 * l.length := by
    intro l
    induction l with
    | nil => simp [lawText]
    | cons j l ih =>
      rw [List.flatMap_cons, lawText_app, List.length_append, List.length_cons, Nat.mul_succ]
      have := step_text_len m j
      omega
  have := h (List.range (m % (many + 1)))
  rw [List.length_range] at this
  have h2 : m % (many + 1) ≤ many := by have := Nat.mod_lt m (show 0 < many + 1 by omega); omega
  exact Nat.le_trans this (Nat.mul_le_mul_left _ h2)
theorem Tk.sh {t : Tk} (h : t.Good) : Sh 2 t.data := by
  have small : ∀ x, isSign x = true → x < 1114112 := fun x hx => by unfold isSign at hx; simp at hx; omega
  cases t with
  | sign n =>
    refine (Sh.tup (k := 0) fun d hd => ?_).mono (by decide)
    rcases List.mem_cons.mp hd with rfl | hd
    · exact .str (by decide)
    · rw [List.mem_singleton.mp hd]; exact .str (by simpa using small n h.1)
  | fin =>
    refine (Sh.tup (k := 0) fun d hd => ?_).mono (by decide)
    rw [List.mem_singleton.mp hd]; exact .str (by decide)
  | act w ns =>
    have hw : w < 1114112 := by
      rcases h with ⟨h1, _⟩ | ⟨h1, _⟩
      · unfold isSmall at h1; simp at h1; omega
      · unfold isGreat at h1; simp at h1; omega
    refine Sh.tup (k := 1) fun d hd => ?_
    rcases List.mem_cons.mp hd with rfl | hd
    · exact .str (by decide)
    · rcases List.mem_cons.mp hd with rfl | hd
      · exact .str (by simpa using hw)
      · rw [List.mem_singleton.mp hd]
        exact .tup fun e he => by obtain ⟨n, _, rfl⟩ := List.mem_map.mp he; exact .int
theorem toks_sh {ts : List Tk} (h : ∀ t ∈ ts, t.Good) : Sh 3 (.list (ts.map Tk.data)) := .lst fun d hd => by
  obtain ⟨t, ht, rfl⟩ := List.mem_map.mp hd
  exact Tk.sh (h t ht)
end Ss
/-! ## law k10 (plain) -/
namespace Ss
open PySem PySem.Spec PyProof.Rows L2
/-- what the law has told and written so far -/
structure K10Ok (row : List Tk) (txt : List Nat) (lost i : Nat) : Prop where
  feed : ∀ l, Rdr.feed ⟨.no, l⟩ txt = (⟨.no, l + lost⟩, row)
  good : ∀ t ∈ row, t.Good
  sign : ∀ x ∈ txt, isSign x = true
  rl : row.length ≤ 61 * i
  tl : txt.length ≤ 163 * i
  wl : (lawText row).length ≤ 163 * i
theorem k10_zero : K10Ok [] [] 0 0 := ⟨fun _ => rfl, fun _ h => (nomatch h), fun _ h => (nomatch h), Nat.zero_le _, Nat.zero_le _, Nat.zero_le _⟩
theorem broken_feed (i : Nat) (h : i < 9) (l : Nat) : Rdr.feed ⟨.no, l⟩ (broken i ++ [10]) = (⟨.no, l + (broken i).length⟩, [.fin]) := by
  have e : i = 0 ∨ i = 1 ∨ i = 2 ∨ i = 3 ∨ i = 4 ∨ i = 5 ∨ i = 6 ∨ i = 7 ∨ i = 8 := by omega
  rcases e with rfl | rfl | rfl | rfl | rfl | rfl | rfl | rfl | rfl <;> rfl
theorem broken_sign : ∀ i, i < 9 → (∀ x ∈ broken i ++ [10], isSign x = true) ∧ (broken i).length ≤ 10 := by decide
theorem k10_row {row : List Tk} {txt : List Nat} {lost i : Nat} (h : K10Ok row txt lost i) (m : Nat) : (∀ l, Rdr.feed ⟨.no, l⟩ (txt ++ lawText (lawRow m 4)) = (⟨.no, l + lost⟩, row ++ lawRow m 4)) ∧ (∀ t ∈ row ++ lawRow m 4, t.Good) ∧
    (∀ x ∈ txt ++ lawText (lawRow m 4), isSign x = true) ∧ (row ++ lawRow m 4).length ≤ 61 * i + 60 ∧ (txt ++ lawText (lawRow m 4)).length ≤ 163 * i + 152 ∧ (lawText (row ++ lawRow m 4)).length ≤ 163 * i + 152 := by
  have a := row_len m 4
  have b := row_text_len m 4
  have hr := h.rl
  have ht := h.tl
  have hw := h.wl
  refine ⟨fun l => ?_, fun t ht => ?_, fun x hx => ?_, by rw [List.length_append]; omega, by rw [List.length_append]; omega, by rw [lawText_app, List.length_append]; omega⟩
  · rw [feed_app, h.feed, feed_text (row_good m 4)]
  · rcases List.mem_append.mp ht with h1 | h1
    · exact h.good t h1
    · exact row_good m 4 t h1
  · rcases List.mem_append.mp hx with h1 | h1
    · exact h.sign x h1
    · exact lawText_signs (row_good m 4) x h1
theorem k10_step {row : List Tk} {txt : List Nat} {lost i : Nat} (h : K10Ok row txt lost i) (m : Nat) : K10Ok (row ++ lawRow m 4) (txt ++ lawText (lawRow m 4)) lost (i + 1) := by
  obtain ⟨a, b, c, d, e, f⟩ := k10_row h m
  exact ⟨a, b, c, by omega, by omega, by omega⟩
theorem k10_stepB {row : List Tk} {txt : List Nat} {lost i : Nat} (h : K10Ok row txt lost i) (m n : Nat) : K10Ok (row ++ lawRow m 4 ++ [.fin]) (txt ++ lawText (lawRow m 4) ++ broken (n % 9) ++ [10]) (lost + (broken (n % 9)).length) (i + 1) := by
  obtain ⟨a, b, c, d, e, f⟩ := k10_row h m
  have h9 : n % 9 < 9 := Nat.mod_lt _ (by decide)
  obtain ⟨s1, s2⟩ := broken_sign _ h9
  refine ⟨fun l => ?_, fun t ht => ?_, fun x hx => ?_, by rw [List.length_append]; simp only [List.length_cons, List.length_nil]; omega, by rw [List.length_append, List.length_append]; simp only [List.length_cons, List.length_nil]; omega, by rw [lawText_app, List.length_append]; show _ + 1 ≤ _; omega⟩
  · rw [List.append_assoc (txt ++ lawText (lawRow m 4)), feed_app, a, broken_feed _ h9]
    dsimp only
    rw [Nat.add_assoc]
  · rcases List.mem_append.mp ht with h1 | h1
    · exact b t h1
    · rw [List.mem_singleton.mp h1]; trivial
  · rw [List.append_assoc (txt ++ lawText (lawRow m 4))] at hx
    rcases List.mem_append.mp hx with h1 | h1
    · exact c x h1
    · exact s1 x h1
theorem feed_app1 (r : Rdr) (l m : List Nat) : (r.feed (l ++ m)).1 = ((r.feed l).1.feed m).1 := by rw [feed_app]
theorem feed_app2 (r : Rdr) (l m : List Nat) : (r.feed (l ++ m)).2 = (r.feed l).2 ++ ((r.feed l).1.feed m).2 := by rw [feed_app]
def k10Left (i : Nat) : List Nat := [[], [94], [94, 71], [94, 71, 40, 49, 44, 50]].getD i []
theorem left_feed (i : Nat) (h : i < 4) (l : Nat) : ∃ p : Pre, Rdr.feed ⟨.no, l⟩ (k10Left i) = (⟨p, l⟩, []) ∧ p.text = k10Left i := by
  have e : i = 0 ∨ i = 1 ∨ i = 2 ∨ i = 3 := by omega
  rcases e with rfl | rfl | rfl | rfl <;> exact ⟨_, rfl, rfl⟩
theorem left_sign : ∀ i, i < 4 → (∀ x ∈ k10Left i, isSign x = true) ∧ (k10Left i).length ≤ 6 := by decide
theorem okText_of {l : List Nat} (h : ∀ x ∈ l, isSign x = true) (hl : l.length ≤ 4000) : okText (.str (T l)) = true := by
  show (decide ((T l).length ≤ 4000) && (T l).cps.toList.all isSign) = true
  rw [T_len, T_list, decide_eq_true hl, List.all_eq_true.mpr h]; rfl
end Ss
/-! ## law k10 -/
namespace Ss
open PySem PySem.Spec PyProof.Rows L2
open Ss in
local macro_rules | `(tactic| walk_at "fg") => `(tactic| first | with_reducible exact fsReader_g0 | with_reducible exact fsReader_g1)
open Ss in
local macro_rules | `(tactic| walk_at "r") => `(tactic| repeat (first
  | with_reducible refine x_seq ?_ | with_reducible refine x_asg ?_ | with_reducible refine x_var rfl ?_ | with_reducible refine x_c ?_ | with_reducible refine x_op ?_ | with_reducible refine x_name ?_ | with_reducible refine x_gcons ?_ | with_reducible refine x_gnil ?_
  | with_reducible refine x_cons ?_ | with_reducible refine x_nil ?_ | with_reducible refine x_cb ?_ | with_reducible refine x_ifs ?_ | with_reducible refine x_test ?_ | with_reducible refine x_bl ?_
  | with_reducible refine g_addNN ?_ | with_reducible refine g_addNL ?_ | with_reducible refine g_addLN ?_ | with_reducible refine l_addI ?_ | with_reducible refine l_subI ?_ | with_reducible refine g_ltNL ?_ | with_reducible refine l_ltI ?_ | with_reducible refine l_leI ?_ | with_reducible refine l_gtI ?_ | with_reducible refine l_geI ?_ | with_reducible refine l_eqX ?_ | with_reducible refine l_neX ?_ | with_reducible refine g_eqNL ?_ | with_reducible refine l_eqII ?_ | with_reducible refine l_neII ?_ | with_reducible refine l_eq rfl ?_ | with_reducible refine l_ne rfl ?_
  | with_reducible refine x_fld ?_ | with_reducible refine x_ret ?_ | with_reducible refine x_drop ?_ | with_reducible refine x_next ?_ | with_reducible refine x_tup ?_ | with_reducible refine x_lst ?_ | with_reducible refine x_f ?_ | with_reducible refine x_o ?_ | with_reducible refine x_n ?_
  | with_reducible refine x_bm ?_ | with_reducible refine x_bm0 ?_ | with_reducible refine x_m1 ?_ | with_reducible refine x_m0 ?_ | with_reducible refine x_isstr ?_ | with_reducible refine x_tystr ?_ | with_reducible refine x_sl ?_ | with_reducible refine x_part ?_ | with_reducible refine x_part' ?_ | with_reducible refine x_nopart ?_
  | with_reducible refine x_sfld ?_ | with_reducible refine x_if ?_ | with_reducible refine x_isty ?_ | with_reducible refine x_chain ?_ | with_reducible refine x_andV ?_ | with_reducible refine x_orV ?_ | with_reducible refine x_notV ?_ | with_reducible refine x_B ?_ | with_reducible refine x_and ?_ | with_reducible refine x_or ?_ | with_reducible refine x_not ?_ | with_reducible refine x_tru ?_ | with_reducible refine x_yes ?_
  | with_reducible refine x_un ?_ | with_reducible refine x_neg ?_ | with_reducible refine x_par ?_ | with_reducible refine x_par' ?_ | with_reducible refine x_retN ?_ | with_reducible refine x_brk ?_ | with_reducible refine x_cont ?_ | with_reducible refine x_rz ?_
  | with_reducible refine l_leS ?_ | with_reducible refine l_ltS ?_ | with_reducible refine l_inX ?_ | with_reducible refine l_niX ?_ | with_reducible refine l_inS ?_ | with_reducible refine l_niS ?_ | with_reducible refine l_count ?_ | with_reducible refine l_ord ?_ | with_reducible refine l_max ?_ | with_reducible refine l_min ?_ | with_reducible refine l_intI ?_ | with_reducible refine l_intB ?_ | with_reducible refine l_is ?_ | with_reducible refine l_isn ?_
  | with_reducible refine g_modNL (by decide) ?_ | with_reducible refine g_divNL (by decide) (by decide) ?_ | with_reducible refine l_modI (by decide) ?_ | with_reducible refine x_for ?_ | with_reducible refine x_lc ?_ | with_reducible refine x_ilist ?_ | with_reducible refine x_itup ?_ | with_reducible refine x_istr ?_ | with_reducible refine x_istr' ?_ | with_reducible refine x_irng1 ?_ | with_reducible refine x_irng2 ?_
  | (with_reducible refine x_get (by first | assumption | exact Hold.get0 (by assumption) | exact Hold.get1 (by assumption)) (by assumption) (by assumption) (by walk_at "fg") ?_)
  | (with_reducible refine x_ao (by first | assumption | exact Hold.get0 (by assumption) | exact Hold.get1 (by assumption)) (by kernel_rfl) ?_)))
/-- a bound of the script's cells -/
@[irreducible] def bigA : Nat := 2 ^ 1048576
theorem bigA_eq : bigA = 2 ^ 1048576 := by unfold bigA; rfl
theorem add_lt_pow {x y e : Nat} (hx : x < 2 ^ e) (hy : y < 2 ^ 40) (h : 40 ≤ e) : x + y < 2 ^ (e + 1) := by
  have := Nat.pow_le_pow_right (show 0 < 2 by decide) h
  rw [Nat.pow_succ]; omega
theorem cell_big {ns : List Int} {k : Nat} (h : ∀ n ∈ ns, n.natAbs < bigA) (hk : k ≤ 1000) : (cellOf ns k).natAbs < bigB := by
  unfold cellOf
  split
  · refine big_of (k := 60) ?_ (by decide)
    have : ((k : Int) * 7919).natAbs = k * 7919 := by rw [Int.natAbs_mul, Int.natAbs_natCast]; rfl
    rw [this]; omega
  · rename_i hn
    have h1 : (ns.getD (k % ns.length) 0).natAbs < bigA := by
      have hlt : k % ns.length < ns.length := Nat.mod_lt _ (List.length_pos_iff.mpr hn)
      exact h _ (getD_mem hlt)
    have h2 : (((k / ns.length : Nat) : Int) * 104729).natAbs < 2 ^ 40 := by
      have : (((k / ns.length : Nat) : Int) * 104729).natAbs = k / ns.length * 104729 := by rw [Int.natAbs_mul, Int.natAbs_natCast]; rfl
      rw [this]
      have := Nat.div_le_self k ns.length
      omega
    refine Nat.lt_of_le_of_lt (Int.natAbs_add_le _ _) ?_
    rw [bigB_eq]
    have h1 := bigA_eq ▸ h1
    generalize hx : (ns.getD (k % ns.length) 0).natAbs = x at h1
    generalize hy : (((k / ns.length : Nat) : Int) * 104729).natAbs = y at h2
    exact Nat.lt_of_lt_of_le (add_lt_pow h1 h2 (by decide)) (Nat.pow_le_pow_right (by decide) (by decide))
theorem l_slTo {K : PySem.W.Frag} {H : Hp} {Q : VK} {l : List Nat} {n : Nat} (hl : l.length ≤ 1000000) (h : Q (.str (T (l.take n))) H) : uSl K (.str (T l)) none (some (n : Int)) H Q := l_slX hl (by rw [cutL_to]; exact h)
theorem l_slFrom {K : PySem.W.Frag} {H : Hp} {Q : VK} {l : List Nat} {n : Nat} (hl : l.length ≤ 1000000) (h : Q (.str (T (l.drop n))) H) : uSl K (.str (T l)) (some (n : Int)) none H Q := l_slX hl (by rw [cutL_from]; exact h)
def sp_law (c : Ctx) : Sp := fun vs H Q _ => ∃ (a : Addr) (ns : List Int) (F : Hp), vs = [.ref a] ∧ SqL c.K F a (ns.map V.int) ∧ ns.length ≤ 63 ∧ (∀ n ∈ ns, n.natAbs < bigA) ∧ LamX.Tabs c.tabs F ∧ Hold F [] H ∧ ∀ H', Q (.bl true) H'
def t_law (c : Ctx) (E : XK) : TS :=
  (tSeq (tFor (iRng1 (tCons (tCB uMax (tCons (tC (.int 1)) (tCons (tCB uMin (tCons (tC (.int 4)) (tCons (tCB (uLen c.K) (tCons (tVar 0) tNil)) tNil))) tNil))) tNil)) (gName 1) (tSeq (tAsg (tF (sp__law_drawn c) E0 (tCons (tF (sp__law_cell c) E0 (tCons (tVar 0) (tCons (tVar 1) tNil))) (tCons (tVar 1) tNil))) (gName 2))
  (tSeq (tAsg (tTup (tCons (tLst tNil) (tCons (tC (.str ⟨#[]⟩)) (tCons (tC (.int 0)) tNil)))) (gTup c.K 3 (gCons (gName 3) (gCons (gName 4) (gCons (gName 5) gNil)))))
  (tSeq (tFor (iRng1 (tCons (tOp uMod (tVar 2) (tC (.int 8))) tNil)) (gName 6) (tSeq (tAsg (tF (sp__law_drawn c) E0 (tCons (tVar 2) (tCons (tVar 6) tNil))) (gName 7))
  (tSeq (tAsg (tF (sp__law_row c) E0 (tCons (tVar 7) (tCons (tC (.int 4)) tNil))) (gName 8))
  (tSeq (tAsg (tTup (tCons (tOp (uAdd c.K) (tVar 3) (tVar 8)) (tCons (tOp (uAdd c.K) (tVar 4) (tF (sp__law_text c) E0 (tCons (tVar 8) tNil))) tNil))) (gTup c.K 2 (gCons (gName 3) (gCons (gName 4) gNil))))
  (tIfS (tTest (tOp (uEq c.K) (tOp uMod (tOp uDiv (tVar 7) (tC (.int 8))) (tC (.int 3))) (tC (.int 0)))) (tSeq (tAsg (tF (sp__law_broken c) E0 (tCons (tOp uDiv (tVar 7) (tC (.int 64))) tNil)) (gTup c.K 2 (gCons (gName 9) (gCons (gName 10) gNil))))
  (tSeq (tAsg (tOp (uAdd c.K) (tOp (uAdd c.K) (tVar 4) (tVar 9)) (tC (.str ⟨#[10]⟩))) (gName 4))
  (tSeq (tAsg (tOp (uAdd c.K) (tVar 5) (tVar 10)) (gName 5))
  (tAsg (tOp (uAdd c.K) (tVar 3) (tLst (tCons (tTup (tCons (tC (.str ⟨#[101, 110, 100]⟩)) tNil)) tNil))) (gName 3))))) tNext)))))
  (tSeq (tIfS (tOr (tTest (tOp (uNe c.K) (LamX.tLam c.tabs TT0 (fun E => (tF (sp_written c) E0 (tCons (tVar 3) tNil)))) (tF (sp__law_text c) E0 (tCons (tVar 3) tNil)))) (tTest (tOp (uNe c.K) (tF (sp_told c) E0 (tCons (tF (sp__law_text c) E0 (tCons (tVar 3) tNil)) tNil)) (tVar 3)))) (tRet (tC (.bl false))) tNext)
  (tSeq (tAsg (tOp (uIx c.K) (tLst (tCons (tC (.str ⟨#[]⟩)) (tCons (tC (.str ⟨#[94]⟩)) (tCons (tC (.str ⟨#[94, 71]⟩)) (tCons (tC (.str ⟨#[94, 71, 40, 49, 44, 50]⟩)) tNil))))) (tOp uMod (tOp uDiv (tVar 2) (tC (.int 8))) (tC (.int 4)))) (gName 11))
  (tSeq (tAsg (tN c.cReader (sp_Reader_init c) E0 tNil) (gName 12))
  (tSeq (tAsg (tLst tNil) (gName 13))
  (tSeq (tAsg (tOp (uAdd c.K) (tVar 4) (tVar 11)) (gName 14))
  (tSeq (tAsg (tC (.int 0)) (gName 15))
  (tSeq (tWhile (tTest (tOp (uNe c.K) (tVar 14) (tC (.str ⟨#[]⟩)))) (tSeq (tAsg (tOp (uAdd c.K) (tC (.int 1)) (tOp uMod (tF (sp__law_drawn c) E0 (tCons (tVar 2) (tCons (tOp (uAdd c.K) (tC (.int 100)) (tVar 15)) tNil))) (tOp (uIx c.K) (tLst (tCons (tC (.int 1)) (tCons (tC (.int 3)) (tCons (tC (.int 50)) tNil)))) (tOp uMod (tOp uDiv (tVar 2) (tC (.int 64))) (tC (.int 3)))))) (gName 16))
  (tSeq (tAsg (tOp (uAdd c.K) (tVar 13) (LamX.tLam c.tabs TT0 (fun E => (tO c.cReader "feed" (sp_Reader_feed c) E (tVar 12) (tCons (tSl (uSl c.K) (tVar 14) tNoPart (tPart (tVar 16))) tNil))))) (gName 13))
  (tSeq (tAsg (tSl (uSl c.K) (tVar 14) (tPart (tVar 16)) tNoPart) (gName 14))
  (tAsg (tOp (uAdd c.K) (tVar 15) (tC (.int 1))) (gName 15))))))
  (tIfS (tOr (tTest (tOp (uNe c.K) (tVar 13) (tVar 3))) (tOr (tTest (tOp (uNe c.K) (tF (sp_told c) E0 (tCons (tOp (uAdd c.K) (tVar 4) (tVar 11)) tNil)) (tVar 3))) (tOr (tTest (tOp (uNe c.K) (tO c.cReader "left" (sp_Reader_left c) E0 (tVar 12) tNil) (tVar 11))) (tTest (tOp (uNe c.K) (tO c.cReader "dropped" (sp_Reader_dropped c) E0 (tVar 12) tNil) (tVar 5)))))) (tRet (tC (.bl false))) tNext))))))))))))
  (tRet (tC (.bl true))))
abbrev N_law : List Str := ["_law_script", "_law_k", "_law_more", "_law_row_here", "_law_text_here", "_law_lost", "_law_j", "_law_here", "_law_some", "_law_broken_here", "_law_many", "_law_left", "_law_reader", "_law_found", "_law_rest", "_law_turn", "_law_size"]

section
variable {c : Ctx}
theorem rd_law : RD N_law (t_law c) (sp_law c) := by
  rintro vs H Q E ⟨a, ns, F, rfl, hs, hl, hb, tb, W, kk⟩
  unfold t_law
  walk_at "r"
  refine l_lenL (W.gr.sqL hs) ?_
  walk_at "r"
  refine x_irng1' (by omega) (by omega) ?_
  have hn4 : (max 1 (min 4 (((ns.map V.int).length : Nat) : Int))).toNat ≤ 4 := by omega
  refine x_forOk (F := F) ItOk.rng (fun i σ H' => ∃ s1 s2 s3 s4 s5 s6 s7 s8 s9 s10 s11 s12 s13 s14 s15 s16 F', σ = [some (.ref a), s1, s2, s3, s4, s5, s6, s7, s8, s9, s10, s11, s12, s13, s14, s15, s16] ∧ Gr F F' ∧ LamX.Tabs c.tabs F' ∧ Hold F' [] H')
    (fun i σ H' _ ⟨_, _, _, _, _, _, _, _, _, _, _, _, _, _, _, _, F', _, g, _, W'⟩ => g.trans W'.gr) ⟨none, none, none, none, none, none, none, none, none, none, none, none, none, none, none, none, F, rfl, Gr.refl F, tb, W⟩ ?_ ?_
  · rintro k σ H' hk ⟨s1, s2, s3, s4, s5, s6, s7, s8, s9, s10, s11, s12, s13, s14, s15, s16, F', rfl, g, tb', W'⟩
    have ek : (0 : Int) + (k : Int) = (k : Int) := Int.zero_add _
    rw [ek]
    walk_at "r"
    refine ⟨a, ns, k, F', [], rfl, by omega, g.sqL hs, hl, W', fun F1 H1 e1 W1 => ?_⟩
    walk_at "r"
    refine ⟨_, k, rfl, cell_big hb (by omega), by omega, ?_⟩
    have hm := drawn_small (cellOf ns k) k
    generalize drawn (cellOf ns k) k = m at hm ⊢
    walk_at "r"
    refine n_lstF W1 (sz rfl) fun p0 F2 H2 e2 h2 W2 => ?_
    walk_at "r"
    refine n_tupF W2 (sz rfl) fun p1 F3 H3 e3 h3 W3 => ?_
    walk_at "r"
    refine x_gtup (st_of (W3.old _ _ h3)) rfl ?_
    walk_at "r"
    refine x_irng1' (by omega) (by omega) ?_
    rw [Int.toNat_natCast]
    refine x_forOk (F := F3) ItOk.rng (fun i σ H' => ∃ p xs row txt lost z6 z7 z8 z9 z10 F4, σ = [some (.ref a), some (.int (k : Int)), some (.int (m : Int)), some (.ref p), some (.str (T txt)), some (.int ((lost : Nat) : Int)), z6, z7, z8, z9, z10, s11, s12, s13, s14, s15, s16] ∧
        K10Ok row txt lost i ∧ F4 p = some (.lst xs) ∧ DpAll c.K F4 xs (row.map Tk.data) ∧ Same F3 F4 ∧ Hold F4 [] H')
      (fun i σ H' _ ⟨_, _, _, _, _, _, _, _, _, _, F', _, _, _, _, s, W'⟩ => (Gr.of s).trans W'.gr) ⟨p0, [], [], [], 0, _, _, _, _, _, F3, rfl, k10_zero, e3 _ _ h2, .nil, Same.refl F3, W3⟩ ?_ ?_
    · rintro j σ H4 hj ⟨p, xs, row, txt, lost, z6, z7, z8, z9, z10, F4, rfl, ok, hp, hxs, e4, W4⟩
      have ej : (0 : Int) + (j : Int) = (j : Int) := Int.zero_add _
      rw [ej]
      have h8 : m % 8 < 8 := Nat.mod_lt _ (by decide)
      have hrl := ok.rl
      have htl := ok.tl
      have hxl := dpAll_len hxs
      rw [List.length_map] at hxl
      walk_at "r"
      refine ⟨_, j, rfl, big_nat hm (by decide), by omega, ?_⟩
      have hh := drawn_small (m : Int) j
      generalize drawn (m : Int) j = h at hh ⊢
      walk_at "r"
      refine ⟨h, 4, F4, [], rfl, Nat.lt_trans hh (by decide), by decide, W4, fun r ys F5 H5 e5 hys W5 => ?_⟩
      walk_at "r"
      have hyl := dpAll_len hys
      rw [List.length_map] at hyl
      have hwl := row_len h 4
      refine n_addF W5 (W5.old _ _ (e5 _ _ hp)) W5.get0 (szl (by omega)) fun q F6 H6 e6 h6 W6 => ?_
      walk_at "r"
      refine ⟨r, ys, lawRow h 4, _, [], rfl, sq_of upd_same, (Gr.of W6.freezeS).dpAll ((Gr.of e6).dpAll hys), row_few h 4, by omega, W6.freeze, fun F7 H7 e7 W7 => ?_⟩
      walk_at "r"
      have htx := row_text_len h 4
      refine l_addX (by omega) ?_
      walk_at "r"
      have e67 : Same F6 F7 := W6.freezeS.trans e7
      refine n_tupF W7 (sz rfl) fun p2 F8 H8 e8 h8' W8 => ?_
      walk_at "r"
      refine x_gtup (st_of (W8.old _ _ h8')) rfl ?_
      walk_at "r"
      have hq : F8 q = some (.lst (xs ++ ys)) := e8 _ _ (e67 _ _ h6)
      have hqd : DpAll c.K F8 (xs ++ ys) ((row ++ lawRow h 4).map Tk.data) := by
        rw [List.map_append]
        exact dpAll_app ((Gr.of (((e5.trans e6).trans e67).trans e8)).dpAll hxs) ((Gr.of ((e6.trans e67).trans e8)).dpAll hys)
      have e48 : Same F3 F8 := (((e4.trans e5).trans e6).trans e67).trans e8
      refine wD (fun hB => ?_) (fun hB => ?_)
      · walk_at "r"
        refine ⟨h / 64, F8, [], rfl, W8, fun r2 F9 H9 e9 h9 W9 => ?_⟩
        have h9lt : h / 64 % 9 < 9 := Nat.mod_lt _ (by decide)
        have hbl := (broken_sign _ h9lt).2
        walk_at "r"
        refine x_gtup (st_of (W9.old _ _ h9)) rfl ?_
        walk_at "r"
        refine l_addX (by rw [List.length_append]; omega) ?_
        walk_at "r"
        refine l_addX (by rw [List.length_append, List.length_append]; simp only [List.length_cons, List.length_nil]; omega) ?_
        walk_at "r"
        refine n_tupF W9 (sz rfl) fun p3 F10 H10 e10 h10 W10 => ?_
        walk_at "r"
        refine n_lstF W10 (sz rfl) fun p4 F11 H11 e11 h11 W11 => ?_
        refine n_addF W11 (W11.old _ _ (e11 _ _ (e10 _ _ (e9 _ _ hq)))) (W11.old _ _ h11) (szl (by rw [List.length_append]; simp only [List.length_cons, List.length_nil]; omega)) fun q2 F12 H12 e12 h12 W12 => ?_
        walk_at "r"
        have e812 : Same F8 F12 := ((e9.trans e10).trans e11).trans e12
        refine ⟨q2, _, row ++ lawRow h 4 ++ [.fin], _, lost + (broken (h / 64 % 9)).length, _, _, _, _, _, F12, rfl, k10_stepB ok h (h / 64), h12, ?_, e48.trans e812, W12⟩
        rw [List.map_append]
        exact dpAll_app ((Gr.of e812).dpAll hqd) (.cons (.tup (st_of (e12 _ _ (e11 _ _ h10))) (.cons (.str _) .nil)) .nil)
      · walk_at "r"
        exact ⟨q, _, row ++ lawRow h 4, _, lost, _, _, _, _, _, F8, rfl, k10_step ok h, hq, hqd, e48, W8⟩
    · rintro σ H4 ⟨p, xs, row, txt, lost, z6, z7, z8, z9, z10, F4, rfl, ok, hp, hxs, e4, W4⟩
      have h8 : m % 8 < 8 := Nat.mod_lt _ (by decide)
      have hrl := ok.rl
      have htl := ok.tl
      have hwl := ok.wl
      have tb4 : LamX.Tabs c.tabs F4 := tb'.ext fun b o z => e4 _ _ (e3 _ _ (e2 _ _ (e1 _ _ z)))
      have few : ∀ t ∈ row, t.Few := fun t ht => (ok.good t ht).few
      have sh := toks_sh ok.good
      have okrow : okText (.str (T (lawText row))) = true := okText_of (lawText_signs ok.good) (by omega)
      walk_at "r"
      refine x_lam W4 (by simp) tb4 fun F5 H5 g5 tb5 W5 => ?_
      walk_at "r"
      refine ⟨p, xs, row, F5, [], rfl, g5.sqL (sq_of hp), g5.dpAll hxs, few, by omega, W5, fun F6 H6 e6 W6 => ?_⟩
      walk_at "r"
      have g6 : Gr F4 F6 := g5.trans (Gr.of e6)
      refine ⟨p, xs, row, F6, [], rfl, g6.sqL (sq_of hp), g6.dpAll hxs, few, by omega, W6, fun F7 H7 e7 W7 => ?_⟩
      walk_at "r"
      refine wF (by simp) ?_
      walk_at "r"
      have g7 : Gr F4 F7 := g6.trans (Gr.of e7)
      refine ⟨p, xs, row, F7, [], rfl, g7.sqL (sq_of hp), g7.dpAll hxs, few, by omega, W7, fun F8 H8 e8 W8 => ?_⟩
      walk_at "r"
      refine ⟨_, F8, [], rfl, .inl ⟨_, rfl, by omega⟩, W8, fun l hl2 _ q ys F9 H9 e9 hys W9 => ?_, fun z => absurd okrow (by rw [z]; decide)⟩
      cases T_inj.mp (V.str.inj hl2)
      have hfd : (Rdr.new.feed (lawText row)).2 = row := by
        show (Rdr.feed ⟨.no, 0⟩ (lawText row)).2 = row
        rw [feed_text ok.good]
      rw [hfd] at hys
      walk_at "r"
      have g9 : Gr F4 F9 := (g7.trans (Gr.of e8)).trans (Gr.of e9)
      refine l_neD (.lst (sq_of W9.get0) (W9.gr.dpAll hys)) (.lst (W9.gr.sqL (g9.sqL (sq_of hp))) (W9.gr.dpAll (g9.dpAll hxs))) (sh.shaped (by decide)) (sh.shaped (by decide)) ?_
      rw [sh.eqv]
      walk_at "r"
      refine wF rfl ?_
      walk_at "r"
      refine n_lstF W9 (sz rfl) fun p5 F10 H10 e10 h10 W10 => ?_
      walk_at "r"
      have h4 : m / 8 % 4 < 4 := Nat.mod_lt _ (by decide)
      refine g_ixL (sq_of (W10.old _ _ h10)) h4 ?_
      have eL : ∀ i, i < 4 → [V.str (T []), V.str (T [94]), V.str (T [94, 71]), V.str (T [94, 71, 40, 49, 44, 50])].getD i .non = .str (T (k10Left i)) := by decide +kernel
      show gName 11 ([V.str (T []), V.str (T [94]), V.str (T [94, 71]), V.str (T [94, 71, 40, 49, 44, 50])].getD (m / 8 % 4) .non) _ _ _
      rw [eL _ h4]
      obtain ⟨ls1, ls2⟩ := left_sign _ h4
      obtain ⟨pl, lf1, lf2⟩ := left_feed _ h4 lost
      generalize k10Left (m / 8 % 4) = left at ls1 ls2 lf1 lf2 ⊢
      walk_at "r"
      refine x_an W10.nil fun x dx H11 W11 => ?_
      refine ⟨x, dx, F10, [], rfl, W11, fun H12 W12 => ⟨rfl, ?_⟩⟩
      walk_at "r"
      refine n_lstF W12 (sz rfl) fun p6 F13 H13 e13 h13 W13 => ?_
      walk_at "r"
      refine l_addX (by omega) ?_
      walk_at "r"
      have g13 : Gr F4 F13 := (g9.trans (Gr.of e10)).trans (Gr.of e13)
      have tb13 : LamX.Tabs c.tabs F13 := tb5.ext fun b o z => e13 _ _ (e10 _ _ (e9 _ _ (e8 _ _ (e7 _ _ (e6 _ _ z)))))
      have fall : Rdr.new.feed (txt ++ left) = (⟨pl, lost⟩, row) := by
        rw [feed_app]
        show (((Rdr.feed ⟨.no, 0⟩ txt).1.feed left).1, (Rdr.feed ⟨.no, 0⟩ txt).2 ++ ((Rdr.feed ⟨.no, 0⟩ txt).1.feed left).2) = _
        rw [ok.feed 0, Nat.zero_add, lf1, List.append_nil]
      have sall : ∀ z ∈ txt ++ left, isSign z = true := fun z hz => by
        rcases List.mem_append.mp hz with h1 | h1
        · exact ok.sign z h1
        · exact ls1 z h1
      have lall : (txt ++ left).length ≤ 1200 := by rw [List.length_append]; omega
      refine x_while (fun w σ H' => ∃ (dn rest : List Nat) (turn : Nat) (fp : Addr) (fxs : List V) (z16 : Option V) (F14 : Hp), σ = [some (.ref a), some (.int (k : Int)), some (.int (m : Int)), some (.ref p), some (.str (T txt)), some (.int ((lost : Nat) : Int)), z6, z7, z8, z9, z10, some (.str (T left)), some (.ref x), some (.ref fp), some (.str (T rest)), some (.int ((turn : Nat) : Int)), z16] ∧
          w = rest.length ∧ dn ++ rest = txt ++ left ∧ turn ≤ dn.length ∧ F14 fp = some (.lst fxs) ∧ DpAll c.K F14 fxs ((Rdr.new.feed dn).2.map Tk.data) ∧ Gr F13 F14 ∧ LamX.Tabs c.tabs F14 ∧ Hold F14 [(x, rdO c dx (Rdr.new.feed dn).1)] H')
        (txt ++ left).length ⟨[], txt ++ left, 0, p6, [], _, F13, rfl, rfl, rfl, Nat.le_refl _, h13, .nil, Gr.refl F13, tb13, W13⟩ ?_
      rintro w σ H14 ⟨dn, rest, turn, fp, fxs, z16, F14, rfl, rfl, hdr, htn, hfp, hfx, g14, tb14, W14⟩
      have hlen : dn.length + rest.length ≤ 1200 := by rw [← List.length_append, hdr]; exact lall
      have wf : (Rdr.new.feed dn).1.pre.Wf := feed_wf (r := Rdr.new) (l := dn) trivial
      walk_at "r"
      refine wN (fun hne => ?_) (fun hnil => ?_)
      · refine x_wN ?_
        walk_at "r"
        refine ⟨_, 100 + turn, rfl, big_nat hm (by decide), by omega, ?_⟩
        have hd := drawn_small (m : Int) (100 + turn)
        generalize drawn (m : Int) (100 + turn) = d at hd ⊢
        walk_at "r"
        refine n_lstF W14 (sz rfl) fun p7 F15 H15 e15 h15 W15 => ?_
        walk_at "r"
        have h3 : m / 64 % 3 < 3 := Nat.mod_lt _ (by decide)
        refine g_ixL (sq_of (W15.old _ _ h15)) h3 ?_
        have eS : ∀ i, i < 3 → [V.int 1, V.int 3, V.int 50].getD i .non = .int ((([1, 3, 50].getD i 1 : Nat) : Nat) : Int) ∧ 0 < [1, 3, 50].getD i 1 := by decide +kernel
        have eS' := eS _ h3
        show uMod _ ([V.int 1, V.int 3, V.int 50].getD (m / 64 % 3) .non) _ _
        rw [eS'.1]
        have hpos := eS'.2
        generalize [1, 3, 50].getD (m / 64 % 3) 1 = sz3 at hpos ⊢
        refine g_modNN hpos ?_
        walk_at "r"
        generalize hsz : (OfNat.ofNat 1 + d % sz3) = size
        have hs1 : 1 ≤ size := by rw [← hsz]; exact Nat.le_add_right 1 _
        clear hsz hd hpos eS' eS
        have hrest : rest.length ≤ 1200 := by omega
        have hr0 : 0 < rest.length := List.length_pos_iff.mpr hne
        refine x_lam W15 (by intro y hy; rw [List.mem_singleton.mp hy]; trivial) (tb14.ext e15) fun F16 H16 g16 tb16 W16 => ?_
        walk_at "r"
        refine l_slTo (Nat.le_trans hrest (by decide)) ?_
        have htk : (rest.take size).length ≤ 1200 := Nat.le_trans (by rw [List.length_take]; exact Nat.min_le_right _ _) hrest
        have oktk : okText (.str (T (rest.take size))) = true := okText_of (fun z hz => sall z (by rw [← hdr]; exact List.mem_append_right _ (List.mem_of_mem_take hz))) (Nat.le_trans htk (by decide))
        walk_at "r"
        refine ⟨x, dx, _, _, F16, [], rfl, .inl ⟨_, rfl, Nat.le_trans htk (by decide)⟩, W16, wf, fun l hl2 _ q2 ys2 F17 H17 e17 hys2 W17 => ?_, fun z => absurd oktk (by rw [z]; decide)⟩
        cases T_inj.mp (V.str.inj hl2)
        walk_at "r"
        have g17 : Gr F14 F17 := ((Gr.of e15).trans g16).trans (Gr.of e17)
        have hfl := dpAll_len hfx
        have hyl2 := dpAll_len hys2
        rw [List.length_map] at hfl hyl2
        have := feed_len' Rdr.new dn
        have := feed_len' (Rdr.new.feed dn).1 (rest.take size)
        refine n_addF W17 (W17.old _ _ (g17.lst hfp)) W17.get0 (szl (by omega)) fun q3 F18 H18 e18 h18 W18 => ?_
        walk_at "r"
        refine l_slFrom (Nat.le_trans hrest (by decide)) ?_
        walk_at "r"
        have fa1 : (Rdr.new.feed (dn ++ rest.take size)).1 = ((Rdr.new.feed dn).1.feed (rest.take size)).1 := feed_app1 _ _ _
        have fa2 : (Rdr.new.feed (dn ++ rest.take size)).2 = (Rdr.new.feed dn).2 ++ ((Rdr.new.feed dn).1.feed (rest.take size)).2 := feed_app2 _ _ _
        have W19 := W18.drop
        generalize (Rdr.new.feed dn).1.feed (rest.take size) = fr at fa1 fa2 W19 hys2
        refine ⟨(rest.drop size).length, ?_, dn ++ rest.take size, rest.drop size, turn + 1, q3, fxs ++ ys2, _, F18, rfl, rfl, ?_, ?_, h18, ?_, (g14.trans g17).trans (Gr.of e18), tb16.ext (fun b o z => e18 _ _ (e17 _ _ z)), ?_⟩
        · rw [List.length_drop]
          exact Nat.sub_lt hr0 hs1
        · rw [List.append_assoc, List.take_append_drop, hdr]
        · rw [List.length_append, List.length_take]
          exact Nat.add_le_add htn (Nat.le_min.mpr ⟨hs1, hr0⟩)
        · rw [fa2, List.map_append]
          exact dpAll_app ((g17.trans (Gr.of e18)).dpAll hfx) ((Gr.of e18).dpAll hys2)
        · rw [fa1]
          exact W19
      · subst hnil
        rw [List.append_nil] at hdr
        subst hdr
        rw [fall] at hfx W14
        have g14' : Gr F4 F14 := g13.trans g14
        walk_at "r"
        refine l_neD (.lst (W14.gr.sqL (sq_of hfp)) (W14.gr.dpAll hfx)) (.lst (W14.gr.sqL (g14'.sqL (sq_of hp))) (W14.gr.dpAll (g14'.dpAll hxs))) (sh.shaped (by decide)) (sh.shaped (by decide)) ?_
        rw [sh.eqv]
        walk_at "r"
        refine wF rfl ?_
        walk_at "r"
        refine l_addX (by omega) ?_
        walk_at "r"
        have okall : okText (.str (T (txt ++ left))) = true := okText_of sall (by omega)
        refine ⟨_, F14, _, rfl, .inl ⟨_, rfl, by omega⟩, W14, fun l hl2 _ q4 ys4 F20 H20 e20 hys4 W20 => ?_, fun z => absurd okall (by rw [z]; decide)⟩
        cases T_inj.mp (V.str.inj hl2)
        rw [fall] at hys4
        walk_at "r"
        have g20 : Gr F4 F20 := g14'.trans (Gr.of e20)
        refine l_neD (.lst (sq_of W20.get0) (W20.gr.dpAll hys4)) (.lst (W20.gr.sqL (g20.sqL (sq_of hp))) (W20.gr.dpAll (g20.dpAll hxs))) (sh.shaped (by decide)) (sh.shaped (by decide)) ?_
        rw [sh.eqv]
        walk_at "r"
        refine wF rfl ?_
        walk_at "r"
        refine ⟨x, dx, pl.text, _, F20, _, rfl, W20.drop, ?_⟩
        walk_at "r"
        refine wF (by rw [lf2]; simp) ?_
        walk_at "r"
        refine ⟨x, dx, pl.text, _, F20, _, rfl, W20.drop, ?_⟩
        walk_at "r"
        refine wF (by simp) ?_
        walk_at "r"
        exact ⟨_, _, _, _, _, _, _, _, _, _, _, _, _, _, _, _, F20, rfl, g.trans ((Gr.of (((e1.trans e2).trans e3).trans e4)).trans g20), tb14.ext e20, W20.nil⟩
  · rintro σ H' ⟨s1, s2, s3, s4, s5, s6, s7, s8, s9, s10, s11, s12, s13, s14, s15, s16, F', rfl, g, tb', W'⟩
    walk_at "r"
    exact kk _
end
end Ss
namespace Ss
open PySem PySem.Spec PyProof.Rows L2
theorem cell_bit {z : Int} (h : Builtin.Int.intBits z ≤ 1048576) : z.natAbs < bigA := by
  rw [bigA_eq]
  unfold Builtin.Int.intBits at h
  by_cases h0 : z = 0
  · subst h0; exact Nat.pow_pos (by decide)
  · rw [if_neg (by simpa using h0)] at h
    exact (Nat.log2_lt (fun e => h0 (Int.natAbs_eq_zero.mp e))).mp (Nat.lt_of_succ_le h)
end Ss
/-! ## the row's part, printed by row.py -/
namespace Ss
open PySem PySem.Spec PyProof.Rows L2
def top (i : Nat) : Stmt := PySem.Challenge.pw_steerscreen_k10_whole_signs_read.main.body.getD i (.Pass ⟨0, 0, 0, 0⟩)
/-- what the top has made, as far as the defs ask it -/
structure Txt (c : Ctx) (mg : Str → Option Value) : Prop where
  b_ord : mg "ord" = none
  b_isinstance : mg "isinstance" = none
  b_str : mg "str" = none
  b_len : mg "len" = none
  b_all : mg "all" = none
  b_tuple : mg "tuple" = none
  b_int : mg "int" = none
  b_range : mg "range" = none
  b_max : mg "max" = none
  b_min : mg "min" = none
  g_BARRED : GlobV mg "BARRED" (v_BARRED c)
  g_GAP : GlobV mg "GAP" (v_GAP c)
  g_MOST_TEXT : GlobV mg "MOST_TEXT" (v_MOST_TEXT c)
  g_SMALL : GlobV mg "SMALL" (v_SMALL c)
  g_GREAT : GlobV mg "GREAT" (v_GREAT c)
  g_FIGURES : GlobV mg "FIGURES" (v_FIGURES c)
  g_MOST_FIGURES : GlobV mg "MOST_FIGURES" (v_MOST_FIGURES c)
  g_MOST_ARGUMENTS : GlobV mg "MOST_ARGUMENTS" (v_MOST_ARGUMENTS c)
  x_BadText : ErrX c.K mg "BadText" c.cBadText

section
variable {P : Program} {w : World} {c : Ctx} {mg : Str → Option Value} {base : Heap}
abbrev st_is_sign : Stmt := top 15
theorem sc_is_sign : FnScope N_is_sign ["sign"] (defScope st_is_sign) := ⟨rfl, rfl, rfl, by decide +kernel, rfl, by decide +kernel, by decide +kernel⟩
theorem ok_is_sign {f : Addr} {fd : FuncData} (F : Fun c.K "is_sign" "is_sign" st_is_sign f fd) (T : Txt c mg) (R : RD N_is_sign (t_is_sign c) (sp_is_sign c)) (Rl : ∀ vs H Q E, sp_is_sign c vs H Q E → vs.length = 1) : FnOk P w c.K mg base CX0 1 f fd ["sign"] (sp_is_sign c) := by
  have nd := sc_is_sign.nd
  refine F.ok sc_is_sign Rl (fun cdv A outer s H vs Q E hr h => ⟨t_is_sign c E, ?_, R vs H Q E h⟩)
  exact (pss_one (ps_ret (pe_or (pe_cmpR (oEq hr.units) (pv 0) (pe_gv T.g_GAP) (by first | rfl | exact nomark _)) (pe_one (pe_and (pe_chain oLe oLe (pe_sc (by decide +kernel)) (pv 0) (pe_sc (by decide +kernel))) (pe_one (pe_cmpR (oNe hr.units) (pe_callB cOrd (by rfl) T.b_ord (by decide +kernel) (pa_cons (pv 0) pa_nil)) (pe_gv T.g_BARRED) (by first | rfl | exact nomark _))))))))

abbrev st_need_text : Stmt := top 16
theorem sc_need_text : FnScope N_need_text ["text"] (defScope st_need_text) := ⟨rfl, rfl, rfl, by decide +kernel, rfl, by decide +kernel, by decide +kernel⟩
theorem ok_need_text {f : Addr} {fd : FuncData} (F : Fun c.K "need_text" "need_text" st_need_text f fd) (T : Txt c mg) (R : RD N_need_text (t_need_text c) (sp_need_text c)) (Rl : ∀ vs H Q E, sp_need_text c vs H Q E → vs.length = 1) (D_is_sign : DefX P w c.K mg base CX0 "is_sign" 1 ["sign"] (sp_is_sign c)) : FnOk P w c.K mg base (L2.CX P w) 2 f fd ["text"] (sp_need_text c) := by
  have nd := sc_need_text.nd
  refine F.okX sc_need_text Rl (fun cdv A outer s H vs Q E hr h => ⟨t_need_text c E, ?_, R vs H Q E h⟩)
  exact (pss_one (ps_if (PW.pt (pw_or (pt_not (pt_val (pe_isTy (pv 0) (by rfl) T.b_isinstance (by rfl) T.b_str (by decide +kernel)))) (pw_or (pt_cmpR oGt (pe_callB cLen (by rfl) T.b_len (by decide +kernel) (pa_cons (pv 0) pa_nil)) (pe_gv T.g_MOST_TEXT) (by first | rfl | exact nomark _)) (pw_or1 (pt_not (pt_val (pe_callB (cr_all rfl) (by rfl) T.b_all (by decide +kernel) (pa_cons (pe_lc (own := [("sign", 1)]) (g := (gName 1)) (tt := tYes) (te := (tF (sp_is_sign c) E0 (tCons (tVar 1) tNil))) rfl nd (pi_str (pv 0)) (blkOk_by (own := [("sign", 1)]) (N := N_need_text) (sc := (defScope st_need_text)) (by decide +kernel)) (fun _ _ _ _ _ => (pg_name (i := 1) nd rfl (by first | exact Or.inl rfl | exact Or.inr rfl))) (fun _ _ _ _ _ => pts_nil) (fun _ _ _ _ _ => (pe_f D_is_sign hr (by decide) pass0 (pa_cons (pv 1) pa_nil)))) pa_nil)))))))) (pss_one (ps_rz T.x_BadText (takes_of rfl rfl rfl rfl))) pss_nil))

abbrev st_Reader_init : Stmt := inClass (top 17) 0
theorem sc_Reader_init : FnScope N_Reader_init ["self"] (defScope st_Reader_init) := ⟨rfl, rfl, rfl, by decide +kernel, rfl, by decide +kernel, by decide +kernel⟩
theorem ok_Reader_init {f : Addr} {fd : FuncData} (F : Fun c.K "__init__" "Reader.__init__" st_Reader_init f fd) (T : Txt c mg) (R : RD N_Reader_init (t_Reader_init c) (sp_Reader_init c)) (Rl : ∀ vs H Q E, sp_Reader_init c vs H Q E → vs.length = 1) : FnOk P w c.K mg base CX0 1 f fd ["self"] (sp_Reader_init c) := by
  have nd := sc_Reader_init.nd
  refine F.ok sc_Reader_init Rl (fun cdv A outer s H vs Q E hr h => ⟨t_Reader_init c E, ?_, R vs H Q E h⟩)
  exact (pss_cons (ps_fld (pv 0) (pe_sc (by decide +kernel)) rfl)
  (pss_one (ps_fld (pv 0) pe_int rfl)))

abbrev st_Reader_dropped : Stmt := inClass (top 17) 1
theorem sc_Reader_dropped : FnScope N_Reader_dropped ["self"] (defScope st_Reader_dropped) := ⟨rfl, rfl, rfl, by decide +kernel, rfl, by decide +kernel, by decide +kernel⟩
theorem ok_Reader_dropped {f : Addr} {fd : FuncData} (F : Fun c.K "dropped" "Reader.dropped" st_Reader_dropped f fd) (T : Txt c mg) (R : RD N_Reader_dropped (t_Reader_dropped c) (sp_Reader_dropped c)) (Rl : ∀ vs H Q E, sp_Reader_dropped c vs H Q E → vs.length = 1) : FnOk P w c.K mg base CX0 1 f fd ["self"] (sp_Reader_dropped c) := by
  have nd := sc_Reader_dropped.nd
  refine F.ok sc_Reader_dropped Rl (fun cdv A outer s H vs Q E hr h => ⟨t_Reader_dropped c E, ?_, R vs H Q E h⟩)
  exact (pss_one (ps_ret (pe_fld (pv 0) rfl)))

abbrev st_Reader_left : Stmt := inClass (top 17) 2
theorem sc_Reader_left : FnScope N_Reader_left ["self"] (defScope st_Reader_left) := ⟨rfl, rfl, rfl, by decide +kernel, rfl, by decide +kernel, by decide +kernel⟩
theorem ok_Reader_left {f : Addr} {fd : FuncData} (F : Fun c.K "left" "Reader.left" st_Reader_left f fd) (T : Txt c mg) (R : RD N_Reader_left (t_Reader_left c) (sp_Reader_left c)) (Rl : ∀ vs H Q E, sp_Reader_left c vs H Q E → vs.length = 1) : FnOk P w c.K mg base CX0 1 f fd ["self"] (sp_Reader_left c) := by
  have nd := sc_Reader_left.nd
  refine F.ok sc_Reader_left Rl (fun cdv A outer s H vs Q E hr h => ⟨t_Reader_left c E, ?_, R vs H Q E h⟩)
  exact (pss_one (ps_ret (pe_fld (pv 0) rfl)))

abbrev st_Reader_feed : Stmt := inClass (top 17) 3
theorem sc_Reader_feed : FnScope N_Reader_feed ["self", "text"] (defScope st_Reader_feed) := ⟨rfl, rfl, rfl, by decide +kernel, rfl, by decide +kernel, by decide +kernel⟩
theorem ok_Reader_feed {f : Addr} {fd : FuncData} (F : Fun c.K "feed" "Reader.feed" st_Reader_feed f fd) (T : Txt c mg) (R : RD N_Reader_feed (t_Reader_feed c) (sp_Reader_feed c)) (Rl : ∀ vs H Q E, sp_Reader_feed c vs H Q E → vs.length = 2) (D_need_text : DefX P w c.K mg base (L2.CX P w) "need_text" 2 ["text"] (sp_need_text c)) (D_Reader_read : MethX P w c.K mg base CX0 c.cReader "read" 2 ["self", "sign"] (sp_Reader_read c)) : FnOk P w c.K mg base (L2.CX P w) 3 f fd ["self", "text"] (sp_Reader_feed c) := by
  have nd := sc_Reader_feed.nd
  refine F.okX sc_Reader_feed Rl (fun cdv A outer s H vs Q E hr h => ⟨t_Reader_feed c E, ?_, R vs H Q E h⟩)
  exact (pss_cons (ps_expr (pe_f D_need_text hr (by decide) passE (pa_cons (pv 1) pa_nil)))
  (pss_cons (ps_set (i := 2) nd rfl (by first | exact Or.inl rfl | exact Or.inr rfl) (pe_lst pa_nil))
  (pss_cons (ps_for (passes_of rfl) rfl (pi_str (pv 1)) (pg_name (i := 3) nd rfl (by first | exact Or.inl rfl | exact Or.inr rfl)) (pss_one (ps_expr (pe_bm PySem.F.plainAttrs_list PySem.F.slot_list_extend PySem.F.type_list_extend mt_extend (pv 2) (pa_cons (pe_o D_Reader_read hr (by decide) pass0 (pv 0) (pa_cons (pv 3) pa_nil)) pa_nil)))))
  (pss_one (ps_ret (pv 2))))))

abbrev st_Reader_plain : Stmt := inClass (top 17) 4
theorem sc_Reader_plain : FnScope N_Reader_plain ["self", "sign"] (defScope st_Reader_plain) := ⟨rfl, rfl, rfl, by decide +kernel, rfl, by decide +kernel, by decide +kernel⟩
theorem ok_Reader_plain {f : Addr} {fd : FuncData} (F : Fun c.K "plain" "Reader.plain" st_Reader_plain f fd) (T : Txt c mg) (R : RD N_Reader_plain (t_Reader_plain c) (sp_Reader_plain c)) (Rl : ∀ vs H Q E, sp_Reader_plain c vs H Q E → vs.length = 2) : FnOk P w c.K mg base CX0 1 f fd ["self", "sign"] (sp_Reader_plain c) := by
  have nd := sc_Reader_plain.nd
  refine F.ok sc_Reader_plain Rl (fun cdv A outer s H vs Q E hr h => ⟨t_Reader_plain c E, ?_, R vs H Q E h⟩)
  exact (pss_cons (ps_if (pt_cmpR (oEq hr.units) (pv 1) (pe_sc (by decide +kernel)) (by first | rfl | exact nomark _)) (pss_cons (ps_fld (pv 0) (pe_sc (by decide +kernel)) rfl)
  (pss_one (ps_ret (pe_lst pa_nil)))) pss_nil)
  (pss_one (ps_ret (pe_ifExp (pt_cmpR (oEq hr.units) (pv 1) (pe_gv T.g_GAP) (by first | rfl | exact nomark _)) (pe_lst (pa_cons (pe_tup (pa_cons (pe_sc (by decide +kernel)) pa_nil)) pa_nil)) (pe_lst (pa_cons (pe_tup (pa_cons (pe_sc (by decide +kernel)) (pa_cons (pv 1) pa_nil))) pa_nil))))))

abbrev st_Reader_read : Stmt := inClass (top 17) 5
theorem sc_Reader_read : FnScope N_Reader_read ["self", "sign"] (defScope st_Reader_read) := ⟨rfl, rfl, rfl, by decide +kernel, rfl, by decide +kernel, by decide +kernel⟩
theorem ok_Reader_read {f : Addr} {fd : FuncData} (F : Fun c.K "read" "Reader.read" st_Reader_read f fd) (T : Txt c mg) (R : RD N_Reader_read (t_Reader_read c) (sp_Reader_read c)) (Rl : ∀ vs H Q E, sp_Reader_read c vs H Q E → vs.length = 2) (D_Reader_plain : MethX P w c.K mg base CX0 c.cReader "plain" 1 ["self", "sign"] (sp_Reader_plain c)) (D_Reader_can_go_on : MethX P w c.K mg base CX0 c.cReader "can_go_on" 1 ["self", "sign"] (sp_Reader_can_go_on c)) (D_Reader_whole : MethX P w c.K mg base CX0 c.cReader "whole" 1 ["self"] (sp_Reader_whole c)) : FnOk P w c.K mg base CX0 2 f fd ["self", "sign"] (sp_Reader_read c) := by
  have nd := sc_Reader_read.nd
  refine F.ok sc_Reader_read Rl (fun cdv A outer s H vs Q E hr h => ⟨t_Reader_read c E, ?_, R vs H Q E h⟩)
  exact (pss_cons (ps_if (pt_cmpR (oEq hr.units) (pe_fld (pv 0) rfl) (pe_sc (by decide +kernel)) (by first | rfl | exact nomark _)) (pss_one (ps_ret (pe_o D_Reader_plain hr (by decide) pass0 (pv 0) (pa_cons (pv 1) pa_nil)))) pss_nil)
  (pss_cons (ps_if (pt_val (pe_o D_Reader_can_go_on hr (by decide) pass0 (pv 0) (pa_cons (pv 1) pa_nil))) (pss_cons (ps_fld (pv 0) (pe_op oAdd (pe_fld (pv 0) rfl) (pv 1)) rfl)
  (pss_one (ps_ret (pe_o0 D_Reader_whole hr (by decide) pass0 (pv 0))))) pss_nil)
  (pss_cons (ps_fld (pv 0) (pe_op oAdd (pe_fld (pv 0) rfl) (pe_callB cLen (by rfl) T.b_len (by decide +kernel) (pa_cons (pe_fld (pv 0) rfl) pa_nil))) rfl)
  (pss_cons (ps_fld (pv 0) (pe_sc (by decide +kernel)) rfl)
  (pss_one (ps_ret (pe_o D_Reader_plain hr (by decide) pass0 (pv 0) (pa_cons (pv 1) pa_nil))))))))

abbrev st_Reader_can_go_on : Stmt := inClass (top 17) 6
theorem sc_Reader_can_go_on : FnScope N_Reader_can_go_on ["self", "sign"] (defScope st_Reader_can_go_on) := ⟨rfl, rfl, rfl, by decide +kernel, rfl, by decide +kernel, by decide +kernel⟩
theorem ok_Reader_can_go_on {f : Addr} {fd : FuncData} (F : Fun c.K "can_go_on" "Reader.can_go_on" st_Reader_can_go_on f fd) (T : Txt c mg) (R : RD N_Reader_can_go_on (t_Reader_can_go_on c) (sp_Reader_can_go_on c)) (Rl : ∀ vs H Q E, sp_Reader_can_go_on c vs H Q E → vs.length = 2) : FnOk P w c.K mg base CX0 1 f fd ["self", "sign"] (sp_Reader_can_go_on c) := by
  have nd := sc_Reader_can_go_on.nd
  refine F.ok sc_Reader_can_go_on Rl (fun cdv A outer s H vs Q E hr h => ⟨t_Reader_can_go_on c E, ?_, R vs H Q E h⟩)
  exact (pss_cons (ps_if (pt_cmpR (oEq hr.units) (pe_callB cLen (by rfl) T.b_len (by decide +kernel) (pa_cons (pe_fld (pv 0) rfl) pa_nil)) pe_int (by first | rfl | exact nomark _)) (pss_one (ps_ret (pe_cmpR oIn (pv 1) (pe_op oAdd (pe_op oAdd (pe_gv T.g_SMALL) (pe_gv T.g_GREAT)) (pe_sc (by decide +kernel))) (by first | rfl | exact nomark _)))) pss_nil)
  (pss_cons (ps_if (pt_cmpR (oEq hr.units) (pe_callB cLen (by rfl) T.b_len (by decide +kernel) (pa_cons (pe_fld (pv 0) rfl) pa_nil)) pe_int (by first | rfl | exact nomark _)) (pss_one (ps_ret (pe_cmpR (oEq hr.units) (pv 1) (pe_sc (by decide +kernel)) (by first | rfl | exact nomark _)))) pss_nil)
  (pss_cons (ps_set (i := 2) nd rfl (by first | exact Or.inl rfl | exact Or.inr rfl) (pe_ix iIx (pe_usplit (pe_slice sSl (pe_fld (pv 0) rfl) (po_some pe_int) po_none) (pe_sc (by decide +kernel))) (pe_un un_neg pe_int) (fun _ _ => rfl)))
  (pss_cons (ps_if (pt_cmpR oIn (pv 1) (pe_gv T.g_FIGURES) (by first | rfl | exact nomark _)) (pss_one (ps_ret (pe_cmpR oLt (pe_callB cLen (by rfl) T.b_len (by decide +kernel) (pa_cons (pv 2) pa_nil)) (pe_gv T.g_MOST_FIGURES) (by first | rfl | exact nomark _)))) pss_nil)
  (pss_cons (ps_if (pt_cmpR (oEq hr.units) (pv 1) (pe_sc (by decide +kernel)) (by first | rfl | exact nomark _)) (pss_one (ps_ret (pe_and (pe_cmpR (oNe hr.units) (pv 2) (pe_sc (by decide +kernel)) (by first | rfl | exact nomark _)) (pe_one (pe_cmpR oLt (pe_ucount (pe_fld (pv 0) rfl) (pe_sc (by decide +kernel))) (pe_op oSub (pe_gv T.g_MOST_ARGUMENTS) pe_int) (by first | rfl | exact nomark _)))))) pss_nil)
  (pss_one (ps_ret (pe_and (pe_cmpR (oEq hr.units) (pv 1) (pe_sc (by decide +kernel)) (by first | rfl | exact nomark _)) (pe_one (pe_or (pe_cmpR (oNe hr.units) (pv 2) (pe_sc (by decide +kernel)) (by first | rfl | exact nomark _)) (pe_one (pe_cmpR (oEq hr.units) (pe_ix iIx (pe_fld (pv 0) rfl) (pe_un un_neg pe_int) (fun _ _ => rfl)) (pe_sc (by decide +kernel)) (by first | rfl | exact nomark _)))))))))))))

abbrev st_Reader_whole : Stmt := inClass (top 17) 7
theorem sc_Reader_whole : FnScope N_Reader_whole ["self"] (defScope st_Reader_whole) := ⟨rfl, rfl, rfl, by decide +kernel, rfl, by decide +kernel, by decide +kernel⟩
theorem ok_Reader_whole {f : Addr} {fd : FuncData} (F : Fun c.K "whole" "Reader.whole" st_Reader_whole f fd) (T : Txt c mg) (R : RD N_Reader_whole (t_Reader_whole c) (sp_Reader_whole c)) (Rl : ∀ vs H Q E, sp_Reader_whole c vs H Q E → vs.length = 1) : FnOk P w c.K mg base CX0 1 f fd ["self"] (sp_Reader_whole c) := by
  have nd := sc_Reader_whole.nd
  refine F.ok sc_Reader_whole Rl (fun cdv A outer s H vs Q E hr h => ⟨t_Reader_whole c E, ?_, R vs H Q E h⟩)
  exact (pss_cons (ps_set (i := 1) nd rfl (by first | exact Or.inl rfl | exact Or.inr rfl) (pe_fld (pv 0) rfl))
  (pss_cons (ps_if (pt_cmpR (oEq hr.units) (pv 1) (pe_sc (by decide +kernel)) (by first | rfl | exact nomark _)) (pss_cons (ps_fld (pv 0) (pe_sc (by decide +kernel)) rfl)
  (pss_one (ps_ret (pe_lst (pa_cons (pe_tup (pa_cons (pe_sc (by decide +kernel)) (pa_cons (pe_sc (by decide +kernel)) pa_nil))) pa_nil))))) pss_nil)
  (pss_cons (ps_if (PW.pt (pw_and (pt_cmpR (oEq hr.units) (pe_callB cLen (by rfl) T.b_len (by decide +kernel) (pa_cons (pv 1) pa_nil)) pe_int (by first | rfl | exact nomark _)) (pw_and1 (pt_cmpR oIn (pe_ix iIx (pv 1) pe_int (fun _ _ => rfl)) (pe_gv T.g_SMALL) (by first | rfl | exact nomark _))))) (pss_cons (ps_fld (pv 0) (pe_sc (by decide +kernel)) rfl)
  (pss_one (ps_ret (pe_lst (pa_cons (pe_tup (pa_cons (pe_sc (by decide +kernel)) (pa_cons (pe_ix iIx (pv 1) pe_int (fun _ _ => rfl)) (pa_cons (pe_tup pa_nil) pa_nil)))) pa_nil))))) pss_nil)
  (pss_cons (ps_if (pt_cmpR (oNe hr.units) (pe_ix iIx (pv 1) (pe_un un_neg pe_int) (fun _ _ => rfl)) (pe_sc (by decide +kernel)) (by first | rfl | exact nomark _)) (pss_one (ps_ret (pe_lst pa_nil))) pss_nil)
  (pss_cons (ps_fld (pv 0) (pe_sc (by decide +kernel)) rfl)
  (pss_cons (ps_set (i := 2) nd rfl (by first | exact Or.inl rfl | exact Or.inr rfl) (pe_slice sSl (pv 1) (po_some pe_int) (po_some (pe_un un_neg pe_int))))
  (pss_one (ps_ret (pe_lst (pa_cons (pe_tup (pa_cons (pe_sc (by decide +kernel)) (pa_cons (pe_ix iIx (pv 1) pe_int (fun _ _ => rfl)) (pa_cons (pe_ifExp (pt_cmpR (oNe hr.units) (pv 2) (pe_sc (by decide +kernel)) (by first | rfl | exact nomark _)) (pe_callTy cTuple (by rfl) T.b_tuple (by decide +kernel) (pa_cons (pe_lc (own := [("one", 3)]) (g := (gName 3)) (tt := tYes) (te := (tCB uInt (tCons (tVar 3) tNil))) rfl nd (pi_list (pe_usplit (pv 2) (pe_sc (by decide +kernel)))) (blkOk_by (own := [("one", 3)]) (N := N_Reader_whole) (sc := (defScope st_Reader_whole)) (by decide +kernel)) (fun _ _ _ _ _ => (pg_name (i := 3) nd rfl (by first | exact Or.inl rfl | exact Or.inr rfl))) (fun _ _ _ _ _ => pts_nil) (fun _ _ _ _ _ => (pe_callTy cInt (by rfl) T.b_int (by decide +kernel) (pa_cons (pv 3) pa_nil)))) pa_nil)) (pe_tup pa_nil)) pa_nil)))) pa_nil))))))))))

abbrev st_told : Stmt := top 18
theorem sc_told : FnScope N_told ["text"] (defScope st_told) := ⟨rfl, rfl, rfl, by decide +kernel, rfl, by decide +kernel, by decide +kernel⟩
theorem ok_told {f : Addr} {fd : FuncData} (F : Fun c.K "told" "told" st_told f fd) (T : Txt c mg) (R : RD N_told (t_told c) (sp_told c)) (Rl : ∀ vs H Q E, sp_told c vs H Q E → vs.length = 1) (D_Reader_feed : MethX P w c.K mg base (L2.CX P w) c.cReader "feed" 3 ["self", "text"] (sp_Reader_feed c)) (D_Reader_init : InitX P w c.K mg base CX0 "Reader" c.cReader 1 ["self"] (sp_Reader_init c)) : FnOk P w c.K mg base (L2.CX P w) 4 f fd ["text"] (sp_told c) := by
  have nd := sc_told.nd
  refine F.okX sc_told Rl (fun cdv A outer s H vs Q E hr h => ⟨t_told c E, ?_, R vs H Q E h⟩)
  exact (pss_one (ps_ret (pe_o D_Reader_feed hr (by decide) passE (pe_n0 D_Reader_init hr (by decide) pass0) (pa_cons (pv 0) pa_nil))))

abbrev st_written : Stmt := top 19
theorem sc_written : FnScope N_written ["row"] (defScope st_written) := ⟨rfl, rfl, rfl, by decide +kernel, rfl, by decide +kernel, by decide +kernel⟩
theorem ok_written {f : Addr} {fd : FuncData} (F : Fun c.K "written" "written" st_written f fd) (T : Txt c mg) (R : RD N_written (t_written c) (sp_written c)) (Rl : ∀ vs H Q E, sp_written c vs H Q E → vs.length = 1) : FnOk P w c.K mg base CX0 1 f fd ["row"] (sp_written c) := by
  have nd := sc_written.nd
  refine F.ok sc_written Rl (fun cdv A outer s H vs Q E hr h => ⟨t_written c E, ?_, R vs H Q E h⟩)
  exact (pss_cons (ps_set (i := 1) nd rfl (by first | exact Or.inl rfl | exact Or.inr rfl) (pe_sc (by decide +kernel)))
  (pss_cons (ps_for PassesOwn.never rfl (pi_list (pv 0)) (pg_name (i := 2) nd rfl (by first | exact Or.inl rfl | exact Or.inr rfl)) (pss_one (ps_if (pt_cmpR (oEq hr.units) (pe_ix iIx (pv 2) pe_int (fun _ _ => rfl)) (pe_sc (by decide +kernel)) (by first | rfl | exact nomark _)) (pss_one (ps_set (i := 1) nd rfl (by first | exact Or.inl rfl | exact Or.inr rfl) (pe_op oAdd (pv 1) (pe_gv T.g_GAP)))) (pss_one (ps_if (pt_cmpR (oEq hr.units) (pe_ix iIx (pv 2) pe_int (fun _ _ => rfl)) (pe_sc (by decide +kernel)) (by first | rfl | exact nomark _)) (pss_one (ps_set (i := 1) nd rfl (by first | exact Or.inl rfl | exact Or.inr rfl) (pe_op oAdd (pv 1) (pe_ifExp (pt_cmpR (oEq hr.units) (pe_ix iIx (pv 2) pe_int (fun _ _ => rfl)) (pe_sc (by decide +kernel)) (by first | rfl | exact nomark _)) (pe_sc (by decide +kernel)) (pe_ix iIx (pv 2) pe_int (fun _ _ => rfl)))))) (pss_one (ps_if (pt_cmpR oIn (pe_ix iIx (pv 2) pe_int (fun _ _ => rfl)) (pe_gv T.g_SMALL) (by first | rfl | exact nomark _)) (pss_one (ps_set (i := 1) nd rfl (by first | exact Or.inl rfl | exact Or.inr rfl) (pe_op oAdd (pe_op oAdd (pv 1) (pe_sc (by decide +kernel))) (pe_ix iIx (pv 2) pe_int (fun _ _ => rfl))))) (pss_one (ps_set (i := 1) nd rfl (by first | exact Or.inl rfl | exact Or.inr rfl) (pe_op oAdd (pe_op oAdd (pe_op oAdd (pe_op oAdd (pe_op oAdd (pv 1) (pe_sc (by decide +kernel))) (pe_ix iIx (pv 2) pe_int (fun _ _ => rfl))) (pe_sc (by decide +kernel))) (pe_ujoin (pe_sc (by decide +kernel)) (pe_lc (own := [("number", 3)]) (g := (gName 3)) (tt := tYes) (te := (tCB uStr (tCons (tVar 3) tNil))) rfl nd (pi_tup (pe_ix iIx (pv 2) pe_int (fun _ _ => rfl))) (blkOk_by (own := [("number", 3)]) (N := N_written) (sc := (defScope st_written)) (by decide +kernel)) (fun _ _ _ _ _ => (pg_name (i := 3) nd rfl (by first | exact Or.inl rfl | exact Or.inr rfl))) (fun _ _ _ _ _ => pts_nil) (fun _ _ _ _ _ => (pe_callTy cStr (by rfl) T.b_str (by decide +kernel) (pa_cons (pv 3) pa_nil)))))) (pe_sc (by decide +kernel))))))))))))
  (pss_one (ps_ret (pv 1)))))

abbrev st__law_cell : Stmt := top 21
theorem sc__law_cell : FnScope N__law_cell ["_law_script", "_law_k"] (defScope st__law_cell) := ⟨rfl, rfl, rfl, by decide +kernel, rfl, by decide +kernel, by decide +kernel⟩
theorem ok__law_cell {f : Addr} {fd : FuncData} (F : Fun c.K "_law_cell" "_law_cell" st__law_cell f fd) (T : Txt c mg) (R : RD N__law_cell (t__law_cell c) (sp__law_cell c)) (Rl : ∀ vs H Q E, sp__law_cell c vs H Q E → vs.length = 2) : FnOk P w c.K mg base CX0 1 f fd ["_law_script", "_law_k"] (sp__law_cell c) := by
  have nd := sc__law_cell.nd
  refine F.ok sc__law_cell Rl (fun cdv A outer s H vs Q E hr h => ⟨t__law_cell c E, ?_, R vs H Q E h⟩)
  exact (pss_cons (ps_if (pt_cmpR (oEq hr.units) (pv 0) (pe_lst pa_nil) (by first | rfl | exact nomark _)) (pss_one (ps_ret (pe_op oMul (pv 1) pe_int))) pss_nil)
  (pss_one (ps_ret (pe_op oAdd (pe_ix iIx (pv 0) (pe_op oMod (pv 1) (pe_callB cLen (by rfl) T.b_len (by decide +kernel) (pa_cons (pv 0) pa_nil))) (fun _ _ => rfl)) (pe_op oMul (pe_op oDiv (pv 1) (pe_callB cLen (by rfl) T.b_len (by decide +kernel) (pa_cons (pv 0) pa_nil))) pe_int)))))

abbrev st__law_drawn : Stmt := top 22
theorem sc__law_drawn : FnScope N__law_drawn ["_law_cell_here", "_law_k"] (defScope st__law_drawn) := ⟨rfl, rfl, rfl, by decide +kernel, rfl, by decide +kernel, by decide +kernel⟩
theorem ok__law_drawn {f : Addr} {fd : FuncData} (F : Fun c.K "_law_drawn" "_law_drawn" st__law_drawn f fd) (T : Txt c mg) (R : RD N__law_drawn (t__law_drawn c) (sp__law_drawn c)) (Rl : ∀ vs H Q E, sp__law_drawn c vs H Q E → vs.length = 2) : FnOk P w c.K mg base CX0 1 f fd ["_law_cell_here", "_law_k"] (sp__law_drawn c) := by
  have nd := sc__law_drawn.nd
  refine F.ok sc__law_drawn Rl (fun cdv A outer s H vs Q E hr h => ⟨t__law_drawn c E, ?_, R vs H Q E h⟩)
  exact (pss_cons (ps_set (i := 2) nd rfl (by first | exact Or.inl rfl | exact Or.inr rfl) (pe_op oMod (pe_op oAdd (pe_op oMul (pv 0) pe_int) (pe_op oMul (pe_op oAdd (pv 1) pe_int) pe_int)) pe_int))
  (pss_cons (ps_set (i := 2) nd rfl (by first | exact Or.inl rfl | exact Or.inr rfl) (pe_op oMod (pe_op oMul (pv 2) (pv 2)) pe_int))
  (pss_cons (ps_set (i := 2) nd rfl (by first | exact Or.inl rfl | exact Or.inr rfl) (pe_op oMul (pe_op oMul (pe_op oAdd (pe_op oMod (pv 2) pe_int) pe_int) (pe_op oAdd (pe_op oDiv (pv 2) pe_int) pe_int)) (pv 2)))
  (pss_one (ps_ret (pe_op oMod (pv 2) pe_int))))))

abbrev st__law_one : Stmt := top 25
theorem sc__law_one : FnScope N__law_one ["_law_more"] (defScope st__law_one) := ⟨rfl, rfl, rfl, by decide +kernel, rfl, by decide +kernel, by decide +kernel⟩
theorem ok__law_one {f : Addr} {fd : FuncData} (F : Fun c.K "_law_one" "_law_one" st__law_one f fd) (T : Txt c mg) (R : RD N__law_one (t__law_one c) (sp__law_one c)) (Rl : ∀ vs H Q E, sp__law_one c vs H Q E → vs.length = 1) (D__law_drawn : DefX P w c.K mg base CX0 "_law_drawn" 1 ["_law_cell_here", "_law_k"] (sp__law_drawn c)) : FnOk P w c.K mg base CX0 2 f fd ["_law_more"] (sp__law_one c) := by
  have nd := sc__law_one.nd
  refine F.ok sc__law_one Rl (fun cdv A outer s H vs Q E hr h => ⟨t__law_one c E, ?_, R vs H Q E h⟩)
  exact (pss_cons (ps_set (i := 1) nd rfl (by first | exact Or.inl rfl | exact Or.inr rfl) (pe_op oDiv (pv 0) pe_int))
  (pss_cons (ps_set (i := 2) nd rfl (by first | exact Or.inl rfl | exact Or.inr rfl) (pe_op oMod (pv 0) pe_int))
  (pss_cons (ps_if (pt_cmpR oLt (pv 2) pe_int (by first | rfl | exact nomark _)) (pss_one (ps_ret (pe_tup (pa_cons (pe_sc (by decide +kernel)) (pa_cons (pe_ix iIx (pe_sc (by decide +kernel)) (pe_op oMod (pv 1) pe_int) (fun _ _ => rfl)) pa_nil))))) pss_nil)
  (pss_cons (ps_if (pt_cmpR (oEq hr.units) (pv 2) pe_int (by first | rfl | exact nomark _)) (pss_one (ps_ret (pe_tup (pa_cons (pe_sc (by decide +kernel)) pa_nil)))) pss_nil)
  (pss_cons (ps_if (pt_cmpR oLt (pv 2) pe_int (by first | rfl | exact nomark _)) (pss_one (ps_ret (pe_tup (pa_cons (pe_sc (by decide +kernel)) (pa_cons (pe_ix iIx (pe_sc (by decide +kernel)) (pe_op oMod (pv 1) pe_int) (fun _ _ => rfl)) (pa_cons (pe_tup pa_nil) pa_nil)))))) pss_nil)
  (pss_cons (ps_set (i := 3) nd rfl (by first | exact Or.inl rfl | exact Or.inr rfl) (pe_ix iIx (pe_sc (by decide +kernel)) (pe_op oMod (pv 1) pe_int) (fun _ _ => rfl)))
  (pss_cons (ps_set (i := 4) nd rfl (by first | exact Or.inl rfl | exact Or.inr rfl) (pe_dget2 (hu_of hr) (pe_disp (pps_cons (pe_sc (by decide +kernel)) pe_int (pps_cons (pe_sc (by decide +kernel)) pe_int pps_nil)) (by rfl) (by rfl) (fun z => by cases z) (by decide)) (pv 3) pe_int ⟨rfl, rfl, rfl, rfl⟩))
  (C8.pss_cut (ps_if (pt_cmpR (oEq hr.units) (pe_op oMod (pe_op oDiv (pv 1) pe_int) pe_int) pe_int (by first | rfl | exact nomark _)) (pss_one (ps_set (i := 4) nd rfl (by first | exact Or.inl rfl | exact Or.inr rfl) (pe_op oMod (pe_op oDiv (pv 1) pe_int) pe_int))) pss_nil) (pss_cons (by first | exact (ps_setLc (i := 5) (own := [("_law_j", 6)]) (g := (gName 6)) (tt := tYes) (te := (tOp (uIx c.K) (tLst (tCons (tC (.int 0)) (tCons (tC (.int 1)) (tCons (tC (.int 2)) (tCons (tC (.int 3)) (tCons (tC (.int 4)) (tCons (tC (.int 7)) (tCons (tC (.int 12)) (tCons (tC (.int 9999)) tNil))))))))) (tOp uMod (tF (sp__law_drawn c) E0 (tCons (tVar 1) (tCons (tVar 6) tNil))) (tC (.int 8))))) rfl nd rfl rfl (sw_true rfl rfl rfl (by decide +kernel)) (pi_range1 (by rfl) T.b_range (pa_cons (pv 4) pa_nil)) (blkOk_by (own := [("_law_j", 6)]) (N := N__law_one) (sc := (defScope st__law_one)) (by decide +kernel)) (fun _ _ _ _ _ => (pg_name (i := 6) nd rfl (by first | exact Or.inl rfl | exact Or.inr rfl))) (fun _ _ _ _ _ => pts_nil) (fun _ _ _ _ _ => (pe_ix iIx (pe_lst (pa_cons pe_int (pa_cons pe_int (pa_cons pe_int (pa_cons pe_int (pa_cons pe_int (pa_cons pe_int (pa_cons pe_int (pa_cons pe_int pa_nil))))))))) (pe_op oMod (pe_f D__law_drawn hr (by decide) pass0 (pa_cons (pv 1) (pa_cons (pv 6) pa_nil))) pe_int) (fun _ _ => rfl)))) | exact (ps_set (i := 5) nd rfl (by first | exact Or.inl rfl | exact Or.inr rfl) (pe_lc (own := [("_law_j", 6)]) (g := (gName 6)) (tt := tYes) (te := (tOp (uIx c.K) (tLst (tCons (tC (.int 0)) (tCons (tC (.int 1)) (tCons (tC (.int 2)) (tCons (tC (.int 3)) (tCons (tC (.int 4)) (tCons (tC (.int 7)) (tCons (tC (.int 12)) (tCons (tC (.int 9999)) tNil))))))))) (tOp uMod (tF (sp__law_drawn c) E0 (tCons (tVar 1) (tCons (tVar 6) tNil))) (tC (.int 8))))) rfl nd (pi_range1 (by rfl) T.b_range (pa_cons (pv 4) pa_nil)) (blkOk_by (own := [("_law_j", 6)]) (N := N__law_one) (sc := (defScope st__law_one)) (by decide +kernel)) (fun _ _ _ _ _ => (pg_name (i := 6) nd rfl (by first | exact Or.inl rfl | exact Or.inr rfl))) (fun _ _ _ _ _ => pts_nil) (fun _ _ _ _ _ => (pe_ix iIx (pe_lst (pa_cons pe_int (pa_cons pe_int (pa_cons pe_int (pa_cons pe_int (pa_cons pe_int (pa_cons pe_int (pa_cons pe_int (pa_cons pe_int pa_nil))))))))) (pe_op oMod (pe_f D__law_drawn hr (by decide) pass0 (pa_cons (pv 1) (pa_cons (pv 6) pa_nil))) pe_int) (fun _ _ => rfl))))))
  (pss_one (ps_ret (pe_tup (pa_cons (pe_sc (by decide +kernel)) (pa_cons (pv 3) (pa_cons (pe_callTy cTuple (by rfl) T.b_tuple (by decide +kernel) (pa_cons (pv 5) pa_nil)) pa_nil)))))))))))))))

abbrev st__law_row : Stmt := top 26
theorem sc__law_row : FnScope N__law_row ["_law_more", "_law_many"] (defScope st__law_row) := ⟨rfl, rfl, rfl, by decide +kernel, rfl, by decide +kernel, by decide +kernel⟩
theorem ok__law_row {f : Addr} {fd : FuncData} (F : Fun c.K "_law_row" "_law_row" st__law_row f fd) (T : Txt c mg) (R : RD N__law_row (t__law_row c) (sp__law_row c)) (Rl : ∀ vs H Q E, sp__law_row c vs H Q E → vs.length = 2) (D__law_drawn : DefX P w c.K mg base CX0 "_law_drawn" 1 ["_law_cell_here", "_law_k"] (sp__law_drawn c)) (D__law_one : DefX P w c.K mg base CX0 "_law_one" 2 ["_law_more"] (sp__law_one c)) : FnOk P w c.K mg base CX0 3 f fd ["_law_more", "_law_many"] (sp__law_row c) := by
  have nd := sc__law_row.nd
  refine F.ok sc__law_row Rl (fun cdv A outer s H vs Q E hr h => ⟨t__law_row c E, ?_, R vs H Q E h⟩)
  exact (pss_cons (ps_set (i := 2) nd rfl (by first | exact Or.inl rfl | exact Or.inr rfl) (pe_lst pa_nil))
  (pss_cons (ps_for PassesOwn.never rfl (pi_range1 (by rfl) T.b_range (pa_cons (pe_op oMod (pv 0) (pe_op oAdd (pv 1) pe_int)) pa_nil)) (pg_name (i := 3) nd rfl (by first | exact Or.inl rfl | exact Or.inr rfl)) (pss_cons (ps_set (i := 4) nd rfl (by first | exact Or.inl rfl | exact Or.inr rfl) (pe_f D__law_drawn hr (by decide) pass0 (pa_cons (pv 0) (pa_cons (pv 3) pa_nil))))
  (C8.pss_cut (ps_if (pt_cmpR (oEq hr.units) (pe_op oMod (pv 4) pe_int) pe_int (by first | rfl | exact nomark _)) (pss_one (ps_set (i := 2) nd rfl (by first | exact Or.inl rfl | exact Or.inr rfl) (pe_op oAdd (pv 2) (pe_lc (own := [("_law_n", 5)]) (g := (gName 5)) (tt := tYes) (te := (tTup (tCons (tC (.str ⟨#[115, 105, 103, 110]⟩)) (tCons (tOp (uIx c.K) (tC (.str ⟨#[109, 110, 111, 112]⟩)) (tOp uMod (tOp (uAdd c.K) (tOp uDiv (tVar 4) (tC (.int 8))) (tVar 5)) (tC (.int 4)))) tNil)))) rfl nd (pi_range1 (by rfl) T.b_range (pa_cons (pe_op oMod (pe_op oDiv (pv 4) pe_int) pe_int) pa_nil)) (blkOk_by (own := [("_law_n", 5)]) (N := N__law_row) (sc := (defScope st__law_row)) (by decide +kernel)) (fun _ _ _ _ _ => (pg_name (i := 5) nd rfl (by first | exact Or.inl rfl | exact Or.inr rfl))) (fun _ _ _ _ _ => pts_nil) (fun _ _ _ _ _ => (pe_tup (pa_cons (pe_sc (by decide +kernel)) (pa_cons (pe_ix iIx (pe_sc (by decide +kernel)) (pe_op oMod (pe_op oAdd (pe_op oDiv (pv 4) pe_int) (pv 5)) pe_int) (fun _ _ => rfl)) pa_nil)))))))) pss_nil) (pss_one (ps_expr (pe_bm PySem.F.plainAttrs_list PySem.F.slot_list_append PySem.F.type_list_append mt_append (pv 2) (pa_cons (pe_f D__law_one hr (by decide) pass0 (pa_cons (pe_op oDiv (pv 4) pe_int) pa_nil)) pa_nil)))))))
  (pss_one (ps_ret (pv 2)))))

abbrev st__law_text : Stmt := top 27
theorem sc__law_text : FnScope N__law_text ["_law_row_here"] (defScope st__law_text) := ⟨rfl, rfl, rfl, by decide +kernel, rfl, by decide +kernel, by decide +kernel⟩
theorem ok__law_text {f : Addr} {fd : FuncData} (F : Fun c.K "_law_text" "_law_text" st__law_text f fd) (T : Txt c mg) (R : RD N__law_text (t__law_text c) (sp__law_text c)) (Rl : ∀ vs H Q E, sp__law_text c vs H Q E → vs.length = 1) : FnOk P w c.K mg base CX0 1 f fd ["_law_row_here"] (sp__law_text c) := by
  have nd := sc__law_text.nd
  refine F.ok sc__law_text Rl (fun cdv A outer s H vs Q E hr h => ⟨t__law_text c E, ?_, R vs H Q E h⟩)
  exact (pss_cons (ps_set (i := 1) nd rfl (by first | exact Or.inl rfl | exact Or.inr rfl) (pe_lst pa_nil))
  (pss_cons (ps_for PassesOwn.never rfl (pi_list (pv 0)) (pg_name (i := 2) nd rfl (by first | exact Or.inl rfl | exact Or.inr rfl)) (pss_one (ps_if (pt_cmpR (oEq hr.units) (pe_ix iIx (pv 2) pe_int (fun _ _ => rfl)) (pe_sc (by decide +kernel)) (by first | rfl | exact nomark _)) (pss_one (ps_expr (pe_bm PySem.F.plainAttrs_list PySem.F.slot_list_append PySem.F.type_list_append mt_append (pv 1) (pa_cons (pe_replIx (pv 2) (by decide +kernel) (by decide +kernel) (by decide +kernel)) pa_nil)))) (pss_one (ps_if (pt_cmpR (oEq hr.units) (pe_ix iIx (pv 2) pe_int (fun _ _ => rfl)) (pe_sc (by decide +kernel)) (by first | rfl | exact nomark _)) (pss_one (ps_expr (pe_bm PySem.F.plainAttrs_list PySem.F.slot_list_append PySem.F.type_list_append mt_append (pv 1) (pa_cons (pe_sc (by decide +kernel)) pa_nil)))) (pss_one (ps_if (pt_cmpR oIn (pe_ix iIx (pv 2) pe_int (fun _ _ => rfl)) (pe_sc (by decide +kernel)) (by first | rfl | exact nomark _)) (pss_one (ps_expr (pe_bm PySem.F.plainAttrs_list PySem.F.slot_list_append PySem.F.type_list_append mt_append (pv 1) (pa_cons (pe_op oAdd (pe_sc (by decide +kernel)) (pe_ix iIx (pv 2) pe_int (fun _ _ => rfl))) pa_nil)))) (pss_one (ps_expr (pe_bm PySem.F.plainAttrs_list PySem.F.slot_list_append PySem.F.type_list_append mt_append (pv 1) (pa_cons (pe_op oAdd (pe_op oAdd (pe_op oAdd (pe_op oAdd (pe_sc (by decide +kernel)) (pe_ix iIx (pv 2) pe_int (fun _ _ => rfl))) (pe_sc (by decide +kernel))) (pe_ujoin (pe_sc (by decide +kernel)) (pe_lc (own := [("_law_n", 3)]) (g := (gName 3)) (tt := tYes) (te := (tCB uStr (tCons (tVar 3) tNil))) rfl nd (pi_tup (pe_ix iIx (pv 2) pe_int (fun _ _ => rfl))) (blkOk_by (own := [("_law_n", 3)]) (N := N__law_text) (sc := (defScope st__law_text)) (by decide +kernel)) (fun _ _ _ _ _ => (pg_name (i := 3) nd rfl (by first | exact Or.inl rfl | exact Or.inr rfl))) (fun _ _ _ _ _ => pts_nil) (fun _ _ _ _ _ => (pe_callTy cStr (by rfl) T.b_str (by decide +kernel) (pa_cons (pv 3) pa_nil)))))) (pe_sc (by decide +kernel))) pa_nil)))))))))))
  (pss_one (ps_ret (pe_ujoin (pe_sc (by decide +kernel)) (pv 1))))))

abbrev st__law_broken : Stmt := top 28
theorem sc__law_broken : FnScope N__law_broken ["_law_more"] (defScope st__law_broken) := ⟨rfl, rfl, rfl, by decide +kernel, rfl, by decide +kernel, by decide +kernel⟩
theorem ok__law_broken {f : Addr} {fd : FuncData} (F : Fun c.K "_law_broken" "_law_broken" st__law_broken f fd) (T : Txt c mg) (R : RD N__law_broken (t__law_broken c) (sp__law_broken c)) (Rl : ∀ vs H Q E, sp__law_broken c vs H Q E → vs.length = 1) : FnOk P w c.K mg base CX0 1 f fd ["_law_more"] (sp__law_broken c) := by
  have nd := sc__law_broken.nd
  refine F.ok sc__law_broken Rl (fun cdv A outer s H vs Q E hr h => ⟨t__law_broken c E, ?_, R vs H Q E h⟩)
  exact (pss_cons (ps_set (i := 1) nd rfl (by first | exact Or.inl rfl | exact Or.inr rfl) (pe_lst (pa_cons (pe_sc (by decide +kernel)) (pa_cons (pe_sc (by decide +kernel)) (pa_cons (pe_sc (by decide +kernel)) (pa_cons (pe_sc (by decide +kernel)) (pa_cons (pe_sc (by decide +kernel)) (pa_cons (pe_slice sSl (pe_sc (by decide +kernel)) po_none (po_some pe_int)) (pa_cons (pe_sc (by decide +kernel)) (pa_cons (pe_sc (by decide +kernel)) (pa_cons (pe_sc (by decide +kernel)) pa_nil)))))))))))
  (pss_cons (ps_set (i := 2) nd rfl (by first | exact Or.inl rfl | exact Or.inr rfl) (pe_ix iIx (pv 1) (pe_op oMod (pv 0) (pe_callB cLen (by rfl) T.b_len (by decide +kernel) (pa_cons (pv 1) pa_nil))) (fun _ _ => rfl)))
  (pss_one (ps_ret (pe_tup (pa_cons (pv 2) (pa_cons (pe_callB cLen (by rfl) T.b_len (by decide +kernel) (pa_cons (pv 2) pa_nil)) pa_nil)))))))

abbrev st__law_told : Stmt := top 24
theorem sc__law_told : FnScope ["_law_deed", "_law_e"] ["_law_deed"] (defScope st__law_told) := ⟨rfl, rfl, rfl, by decide +kernel, rfl, by decide +kernel, by decide +kernel⟩
theorem toldOk {f : Addr} {fd : FuncData} {CS : Addr} (F : Fun c.K "_law_told" "_law_told" st__law_told f fd) (g : mg "_law_told" = some (.ref f)) (gE : mg "ScreenError" = some (.ref CS)) : ToldOk P w c.K mg (defArgs st__law_told) (defBody st__law_told) (defScope st__law_told) := by
  have b := F.binds (ps := ["_law_deed"]) (fun _ _ _ _ _ _ us hl => match us, hl with | [_], _ => rfl)
  obtain ⟨oc, od, kV, doc, pm, an, cdv, ct, osl, rfl, lk, hcd⟩ := F.ex
  exact ⟨⟨f, oc, od, .none, kV, doc, pm, an, cdv, ct, osl, g, F.kp, lk, hcd, b⟩, fun X hX g cdg q => told0_gives (n := "_law_e") (e := "ScreenError") (CS := CS) (by decide +kernel) rfl (by kernel_rfl) (by kernel_rfl) (by rw [hX]; exact gE) (by decide) (fun _ => rfl), sc__law_told, Or.inl rfl⟩
abbrev st_law : Stmt := top 29
theorem sc_law : FnScope N_law ["_law_script"] (defScope st_law) := ⟨rfl, rfl, rfl, by decide +kernel, rfl, by decide +kernel, by decide +kernel⟩
theorem ok_law {f : Addr} {fd : FuncData} (F : Fun c.K "law" "law" st_law f fd) {cL Pt : Addr} (hc : fd.code = .ref cL) (hT : c.tabs = [(Pt, (("law" : Str) ++ ".<locals>.") ++ "<lambda>")]) (TB : LamX.TabB base mg cL Pt) (TOLD : ToldOk P w c.K mg (defArgs st__law_told) (defBody st__law_told) (defScope st__law_told)) (T : Txt c mg) (R : RD N_law (t_law c) (sp_law c)) (Rl : ∀ vs H Q E, sp_law c vs H Q E → vs.length = 1) (D__law_drawn : DefX P w c.K mg base CX0 "_law_drawn" 1 ["_law_cell_here", "_law_k"] (sp__law_drawn c)) (D__law_cell : DefX P w c.K mg base CX0 "_law_cell" 1 ["_law_script", "_law_k"] (sp__law_cell c)) (D__law_row : DefX P w c.K mg base CX0 "_law_row" 3 ["_law_more", "_law_many"] (sp__law_row c)) (D__law_text : DefX P w c.K mg base CX0 "_law_text" 1 ["_law_row_here"] (sp__law_text c)) (D__law_broken : DefX P w c.K mg base CX0 "_law_broken" 1 ["_law_more"] (sp__law_broken c)) (D_written : DefX P w c.K mg base CX0 "written" 1 ["row"] (sp_written c)) (D_told : DefX P w c.K mg base (L2.CX P w) "told" 4 ["text"] (sp_told c)) (D_Reader_init : InitX P w c.K mg base CX0 "Reader" c.cReader 1 ["self"] (sp_Reader_init c)) (D_Reader_feed : MethX P w c.K mg base (L2.CX P w) c.cReader "feed" 3 ["self", "text"] (sp_Reader_feed c)) (D_Reader_left : MethX P w c.K mg base CX0 c.cReader "left" 1 ["self"] (sp_Reader_left c)) (D_Reader_dropped : MethX P w c.K mg base CX0 c.cReader "dropped" 1 ["self"] (sp_Reader_dropped c)) : FnOk P w c.K mg base CX0 6 f fd ["_law_script"] (sp_law c) := by
  have nd := sc_law.nd
  obtain ⟨oc, od, kV, doc, pm, an, cdv, ct, osl, rfl, lk, hcq⟩ := F.ex
  have hc' : cdv = .ref cL := hc
  subst hc'
  refine fn_of lk hcq sc_law Rl fun A outer s H vs Q E hr h => ⟨t_law c E, PSs.nox ?_, R vs H Q E h⟩
  have hcd : (cxOf CX0 P w c.K mg base N_law "law" (defScope st_law) f (.ref cL) A outer s H E).nox.env.code = .ref cL := rfl
  exact (pss_cons (ps_for PassesOwn.never rfl (pi_range1 (by rfl) T.b_range (pa_cons (pe_callB (cMax rfl) (by rfl) T.b_max (by decide +kernel) (pa_cons pe_int (pa_cons (pe_callB (cMin rfl) (by rfl) T.b_min (by decide +kernel) (pa_cons pe_int (pa_cons (pe_callB cLen (by rfl) T.b_len (by decide +kernel) (pa_cons (pv 0) pa_nil)) pa_nil))) pa_nil))) pa_nil)) (pg_name (i := 1) nd rfl (by first | exact Or.inl rfl | exact Or.inr rfl)) (pss_cons (ps_set (i := 2) nd rfl (by first | exact Or.inl rfl | exact Or.inr rfl) (pe_f D__law_drawn hr (by decide) pass0 (pa_cons (pe_f D__law_cell hr (by decide) pass0 (pa_cons (pv 0) (pa_cons (pv 1) pa_nil))) (pa_cons (pv 1) pa_nil))))
  (pss_cons (ps_asg (pe_tup (pa_cons (pe_lst pa_nil) (pa_cons (pe_sc (by decide +kernel)) (pa_cons pe_int pa_nil)))) (pg_tup (by rfl) (pgs_cons (pg_name (i := 3) nd rfl (by first | exact Or.inl rfl | exact Or.inr rfl)) (pgs_cons (pg_name (i := 4) nd rfl (by first | exact Or.inl rfl | exact Or.inr rfl)) (pgs_cons (pg_name (i := 5) nd rfl (by first | exact Or.inl rfl | exact Or.inr rfl)) pgs_nil)))))
  (pss_cons (ps_for PassesOwn.never rfl (pi_range1 (by rfl) T.b_range (pa_cons (pe_op oMod (pv 2) pe_int) pa_nil)) (pg_name (i := 6) nd rfl (by first | exact Or.inl rfl | exact Or.inr rfl)) (pss_cons (ps_set (i := 7) nd rfl (by first | exact Or.inl rfl | exact Or.inr rfl) (pe_f D__law_drawn hr (by decide) pass0 (pa_cons (pv 2) (pa_cons (pv 6) pa_nil))))
  (pss_cons (ps_set (i := 8) nd rfl (by first | exact Or.inl rfl | exact Or.inr rfl) (pe_f D__law_row hr (by decide) pass0 (pa_cons (pv 7) (pa_cons pe_int pa_nil))))
  (pss_cons (ps_asg (pe_tup (pa_cons (pe_op oAdd (pv 3) (pv 8)) (pa_cons (pe_op oAdd (pv 4) (pe_f D__law_text hr (by decide) pass0 (pa_cons (pv 8) pa_nil))) pa_nil))) (pg_tup (by rfl) (pgs_cons (pg_name (i := 3) nd rfl (by first | exact Or.inl rfl | exact Or.inr rfl)) (pgs_cons (pg_name (i := 4) nd rfl (by first | exact Or.inl rfl | exact Or.inr rfl)) pgs_nil))))
  (pss_one (ps_if (pt_cmpR (oEq hr.units) (pe_op oMod (pe_op oDiv (pv 7) pe_int) pe_int) pe_int (by first | rfl | exact nomark _)) (pss_cons (ps_asg (pe_f D__law_broken hr (by decide) pass0 (pa_cons (pe_op oDiv (pv 7) pe_int) pa_nil)) (pg_tup (by rfl) (pgs_cons (pg_name (i := 9) nd rfl (by first | exact Or.inl rfl | exact Or.inr rfl)) (pgs_cons (pg_name (i := 10) nd rfl (by first | exact Or.inl rfl | exact Or.inr rfl)) pgs_nil))))
  (pss_cons (ps_set (i := 4) nd rfl (by first | exact Or.inl rfl | exact Or.inr rfl) (pe_op oAdd (pe_op oAdd (pv 4) (pv 9)) (pe_sc (by decide +kernel))))
  (pss_cons (ps_set (i := 5) nd rfl (by first | exact Or.inl rfl | exact Or.inr rfl) (pe_op oAdd (pv 5) (pv 10)))
  (pss_one (ps_set (i := 3) nd rfl (by first | exact Or.inl rfl | exact Or.inr rfl) (pe_op oAdd (pv 3) (pe_lst (pa_cons (pe_tup (pa_cons (pe_sc (by decide +kernel)) pa_nil)) pa_nil)))))))) pss_nil))))))
  (pss_cons (ps_if (PW.pt (pw_or (pt_cmpR (oNe hr.units) (pe_told (k := 3) TOLD TB hcd hT hr (LamX.lamS_by (sc := (defScope st_law)) (by decide +kernel)) rfl (fun _ _ _ _ _ => rfl) (fun A outer s H E f c' hr => (pe_f D_written hr (by decide) pass0 (pa_cons (pv 3) pa_nil)))) (pe_f D__law_text hr (by decide) pass0 (pa_cons (pv 3) pa_nil)) (by first | rfl | exact nomark _)) (pw_or1 (pt_cmpR (oNe hr.units) (pe_f D_told hr (by decide) passL (pa_cons (pe_f D__law_text hr (by decide) pass0 (pa_cons (pv 3) pa_nil)) pa_nil)) (pv 3) (by first | rfl | exact nomark _))))) (pss_one (ps_ret pe_bl)) pss_nil)
  (pss_cons (ps_set (i := 11) nd rfl (by first | exact Or.inl rfl | exact Or.inr rfl) (pe_ix iIx (pe_lst (pa_cons (pe_sc (by decide +kernel)) (pa_cons (pe_sc (by decide +kernel)) (pa_cons (pe_sc (by decide +kernel)) (pa_cons (pe_sc (by decide +kernel)) pa_nil))))) (pe_op oMod (pe_op oDiv (pv 2) pe_int) pe_int) (fun _ _ => rfl)))
  (pss_cons (ps_set (i := 12) nd rfl (by first | exact Or.inl rfl | exact Or.inr rfl) (pe_n0 D_Reader_init hr (by decide) pass0))
  (pss_cons (ps_set (i := 13) nd rfl (by first | exact Or.inl rfl | exact Or.inr rfl) (pe_lst pa_nil))
  (pss_cons (ps_set (i := 14) nd rfl (by first | exact Or.inl rfl | exact Or.inr rfl) (pe_op oAdd (pv 4) (pv 11)))
  (pss_cons (ps_set (i := 15) nd rfl (by first | exact Or.inl rfl | exact Or.inr rfl) pe_int)
  (pss_cons (ps_while PassesOwn.never (pt_cmpR (oNe hr.units) (pv 14) (pe_sc (by decide +kernel)) (by first | rfl | exact nomark _)) (pss_cons (ps_set (i := 16) nd rfl (by first | exact Or.inl rfl | exact Or.inr rfl) (pe_op oAdd pe_int (pe_op oMod (pe_f D__law_drawn hr (by decide) pass0 (pa_cons (pv 2) (pa_cons (pe_op oAdd pe_int (pv 15)) pa_nil))) (pe_ix iIx (pe_lst (pa_cons pe_int (pa_cons pe_int (pa_cons pe_int pa_nil)))) (pe_op oMod (pe_op oDiv (pv 2) pe_int) pe_int) (fun _ _ => rfl)))))
  (pss_cons (ps_set (i := 13) nd rfl (by first | exact Or.inl rfl | exact Or.inr rfl) (pe_op oAdd (pv 13) (pe_told (k := 3) TOLD TB hcd hT hr (LamX.lamS_by (sc := (defScope st_law)) (by decide +kernel)) rfl (fun _ _ _ _ _ => rfl) (fun A outer s H E f c' hr => (pe_o D_Reader_feed hr (by decide) (passes_call (takes_of rfl rfl rfl rfl) (fun _ _ _ _ h => h)) (pv 12) (pa_cons (pe_slice sSl (pv 14) po_none (po_some (pv 16))) pa_nil))))))
  (pss_cons (ps_set (i := 14) nd rfl (by first | exact Or.inl rfl | exact Or.inr rfl) (pe_slice sSl (pv 14) (po_some (pv 16)) po_none))
  (pss_one (ps_set (i := 15) nd rfl (by first | exact Or.inl rfl | exact Or.inr rfl) (pe_op oAdd (pv 15) pe_int)))))))
  (pss_one (ps_if (PW.pt (pw_or (pt_cmpR (oNe hr.units) (pv 13) (pv 3) (by first | rfl | exact nomark _)) (pw_or (pt_cmpR (oNe hr.units) (pe_f D_told hr (by decide) passL (pa_cons (pe_op oAdd (pv 4) (pv 11)) pa_nil)) (pv 3) (by first | rfl | exact nomark _)) (pw_or (pt_cmpR (oNe hr.units) (pe_o0 D_Reader_left hr (by decide) pass0 (pv 12)) (pv 11) (by first | rfl | exact nomark _)) (pw_or1 (pt_cmpR (oNe hr.units) (pe_o0 D_Reader_dropped hr (by decide) pass0 (pv 12)) (pv 5) (by first | rfl | exact nomark _))))))) (pss_one (ps_ret pe_bl)) pss_nil)))))))))))))
  (pss_one (ps_ret pe_bl)))

end
def fa : List He.Fa := [.free "ord", .free "isinstance", .free "str", .free "len", .free "all", .free "tuple", .free "int", .free "range", .free "max", .free "min", .int "BARRED" 37, .str "GAP" ⟨#[10]⟩, .int "MOST_TEXT" 4000, .str "SMALL" ⟨#[97, 98, 99, 100, 101, 102, 103, 104, 105, 106, 107, 108, 109, 110, 111, 112, 113, 114, 115, 116, 117, 118, 119, 120, 121, 122]⟩, .str "GREAT" ⟨#[65, 66, 67, 68, 69, 70, 71, 72, 73, 74, 75, 76, 77, 78, 79, 80, 81, 82, 83, 84, 85, 86, 87, 88, 89, 90]⟩, .str "FIGURES" ⟨#[48, 49, 50, 51, 52, 53, 54, 55, 56, 57]⟩, .int "MOST_FIGURES" 4, .int "MOST_ARGUMENTS" 4, .glo "BadText", .exc "BadText", .glo "ScreenError", .glo "Reader", .cls "Reader", .mkr "Reader", .noat "Reader" "begun", .noat "Reader" "lost", .meth "Reader" "dropped", .meth "Reader" "left", .meth "Reader" "feed", .meth "Reader" "plain", .meth "Reader" "read", .meth "Reader" "can_go_on", .meth "Reader" "whole", .glo "is_sign", .glo "need_text", .glo "told", .glo "written", .glo "_law_cell", .glo "_law_drawn", .glo "_law_one", .glo "_law_row", .glo "_law_text", .glo "_law_broken", .glo "law", .glo "_law_told"]
def dd_is_sign : He.DefD := ⟨("is_sign", none), "is_sign", "is_sign", defArgs st_is_sign, defBody st_is_sign, defScope st_is_sign, [], []⟩
def dd_need_text : He.DefD := ⟨("need_text", none), "need_text", "need_text", defArgs st_need_text, defBody st_need_text, defScope st_need_text, [], []⟩
def dd_Reader_init : He.DefD := ⟨("Reader", some "__init__"), "__init__", "Reader.__init__", defArgs st_Reader_init, defBody st_Reader_init, defScope st_Reader_init, [], []⟩
def dd_Reader_dropped : He.DefD := ⟨("Reader", some "dropped"), "dropped", "Reader.dropped", defArgs st_Reader_dropped, defBody st_Reader_dropped, defScope st_Reader_dropped, [], []⟩
def dd_Reader_left : He.DefD := ⟨("Reader", some "left"), "left", "Reader.left", defArgs st_Reader_left, defBody st_Reader_left, defScope st_Reader_left, [], []⟩
def dd_Reader_feed : He.DefD := ⟨("Reader", some "feed"), "feed", "Reader.feed", defArgs st_Reader_feed, defBody st_Reader_feed, defScope st_Reader_feed, [], []⟩
def dd_Reader_plain : He.DefD := ⟨("Reader", some "plain"), "plain", "Reader.plain", defArgs st_Reader_plain, defBody st_Reader_plain, defScope st_Reader_plain, [], []⟩
def dd_Reader_read : He.DefD := ⟨("Reader", some "read"), "read", "Reader.read", defArgs st_Reader_read, defBody st_Reader_read, defScope st_Reader_read, [], []⟩
def dd_Reader_can_go_on : He.DefD := ⟨("Reader", some "can_go_on"), "can_go_on", "Reader.can_go_on", defArgs st_Reader_can_go_on, defBody st_Reader_can_go_on, defScope st_Reader_can_go_on, [], []⟩
def dd_Reader_whole : He.DefD := ⟨("Reader", some "whole"), "whole", "Reader.whole", defArgs st_Reader_whole, defBody st_Reader_whole, defScope st_Reader_whole, [], []⟩
def dd_told : He.DefD := ⟨("told", none), "told", "told", defArgs st_told, defBody st_told, defScope st_told, [], []⟩
def dd_written : He.DefD := ⟨("written", none), "written", "written", defArgs st_written, defBody st_written, defScope st_written, [], []⟩
def dd__law_cell : He.DefD := ⟨("_law_cell", none), "_law_cell", "_law_cell", defArgs st__law_cell, defBody st__law_cell, defScope st__law_cell, [], []⟩
def dd__law_drawn : He.DefD := ⟨("_law_drawn", none), "_law_drawn", "_law_drawn", defArgs st__law_drawn, defBody st__law_drawn, defScope st__law_drawn, [], []⟩
def dd__law_one : He.DefD := ⟨("_law_one", none), "_law_one", "_law_one", defArgs st__law_one, defBody st__law_one, defScope st__law_one, [], []⟩
def dd__law_row : He.DefD := ⟨("_law_row", none), "_law_row", "_law_row", defArgs st__law_row, defBody st__law_row, defScope st__law_row, [], []⟩
def dd__law_text : He.DefD := ⟨("_law_text", none), "_law_text", "_law_text", defArgs st__law_text, defBody st__law_text, defScope st__law_text, [], []⟩
def dd__law_broken : He.DefD := ⟨("_law_broken", none), "_law_broken", "_law_broken", defArgs st__law_broken, defBody st__law_broken, defScope st__law_broken, [], []⟩
def dd_law : He.DefD := ⟨("law", none), "law", "law", defArgs st_law, defBody st_law, defScope st_law, [], []⟩
def dd__law_told : He.DefD := ⟨("_law_told", none), "_law_told", "_law_told", defArgs st__law_told, defBody st__law_told, defScope st__law_told, [], []⟩
def fn : List He.DefD := [dd_is_sign, dd_need_text, dd_Reader_init, dd_Reader_dropped, dd_Reader_left, dd_Reader_feed, dd_Reader_plain, dd_Reader_read, dd_Reader_can_go_on, dd_Reader_whole, dd_told, dd_written, dd__law_cell, dd__law_drawn, dd__law_one, dd__law_row, dd__law_text, dd__law_broken, dd_law, dd__law_told]
def tf : List He.Defn := [("law", none)]
abbrev Rw : PySem.W.OpenRow := PySem.W.OpenLaw.row PySem.Challenge.rw_steerscreen_k10_whole_signs_read
def exK : PySem.W.Frag → Bool := fun _ => true
abbrev hkk : PySem.W.Hook := He.hookX 4 fa fn [] tf exK
def ob (s : PySem.W.SharedT) : He.AlX := He.obsX 4 fa fn [] tf exK (HandSHeadRun.getT s)
theorem ob_eq (s : PySem.W.SharedT) : ob s = hkk.obs s.abs := He.obsX_eq (HandSHeadRun.getT_eq s)
def loose : List Str := ["ScreenError", "BadText", "BadSize", "BadPlace", "BadPage", "is_sign", "need_text", "Reader", "told", "written", "_law_cell", "_law_drawn", "_law_word", "_law_told", "_law_one", "_law_row", "_law_text", "_law_broken", "MOST_TEXT", "MOST_FIGURES", "MOST_ARGUMENTS", "SMALL", "GREAT", "FIGURES", "BARRED", "GAP"]
theorem run (w : World) : HandSHeadRun.RunEq Rw (PySem.W.view Rw.prog [29]) hkk ob 3000 loose w := by
  intro os
  kernel_rfl
theorem funD_fun {K : PySem.W.Frag} {x q : Str} {st : Stmt} {f : Addr} {fd : FuncData} (F : FunD K x q (defArgs st) (defBody st) (defScope st) [] [] f fd) : Fun K x q st f fd := by
  obtain ⟨oc, od, dV, kV, doc, pm, an, cdv, ct, osl, rfl, lk, hcd, hD, _⟩ := F.ex
  rcases hD with ⟨_, rfl⟩ | ⟨e, _⟩
  · exact ⟨⟨oc, od, kV, doc, pm, an, cdv, ct, osl, rfl, lk, hcd⟩, F.kp⟩
  · exact absurd rfl e
def ctx (K : PySem.W.Frag) : Ctx := { K := K, cScreenError := He.ga K "ScreenError", cBadText := He.ga K "BadText", cBadSize := He.ga K "BadSize", cBadPlace := He.ga K "BadPlace", cBadPage := He.ga K "BadPage", cBadPane := He.ga K "BadPane", cBadTick := He.ga K "BadTick", cNothing := He.ga K "Nothing", cReader := He.ga K "Reader", cRow := He.ga K "Row", cScreen := He.ga K "Screen", cLine := He.ga K "Line", cPanes := He.ga K "Panes", cTape := He.ga K "Tape", aPLAIN := He.ga K "PLAIN", aBLANK := He.ga K "BLANK", aUPRIGHT := He.ga K "UPRIGHT", aLEVEL := He.ga K "LEVEL", tabs := [((He.cT K ("law", none)).2, (("law" : Str) ++ ".<locals>.") ++ "<lambda>")] }
theorem says_txt {K : PySem.W.Frag} {h : Heap} {mg : Str → Option Value} (X : K.In h) (G : h.Ns mainGlobals mg) (c : He.SaysD fa fn K) : Txt (ctx K) mg where
  b_ord := He.free_ok X G (c.fact 0 (f := .free "ord") rfl)
  b_isinstance := He.free_ok X G (c.fact 1 (f := .free "isinstance") rfl)
  b_str := He.free_ok X G (c.fact 2 (f := .free "str") rfl)
  b_len := He.free_ok X G (c.fact 3 (f := .free "len") rfl)
  b_all := He.free_ok X G (c.fact 4 (f := .free "all") rfl)
  b_tuple := He.free_ok X G (c.fact 5 (f := .free "tuple") rfl)
  b_int := He.free_ok X G (c.fact 6 (f := .free "int") rfl)
  b_range := He.free_ok X G (c.fact 7 (f := .free "range") rfl)
  b_max := He.free_ok X G (c.fact 8 (f := .free "max") rfl)
  b_min := He.free_ok X G (c.fact 9 (f := .free "min") rfl)
  g_BARRED := let ⟨t, e⟩ := He.int_ok X G (c.fact 10 (f := .int "BARRED" 37) rfl); ⟨_, e, ⟨t, rfl⟩⟩
  g_GAP := let ⟨t, e⟩ := He.str_ok X G (c.fact 11 (f := .str "GAP" ⟨#[10]⟩) rfl); ⟨_, e, ⟨t, rfl⟩⟩
  g_MOST_TEXT := let ⟨t, e⟩ := He.int_ok X G (c.fact 12 (f := .int "MOST_TEXT" 4000) rfl); ⟨_, e, ⟨t, rfl⟩⟩
  g_SMALL := let ⟨t, e⟩ := He.str_ok X G (c.fact 13 (f := .str "SMALL" ⟨#[97, 98, 99, 100, 101, 102, 103, 104, 105, 106, 107, 108, 109, 110, 111, 112, 113, 114, 115, 116, 117, 118, 119, 120, 121, 122]⟩) rfl); ⟨_, e, ⟨t, rfl⟩⟩
  g_GREAT := let ⟨t, e⟩ := He.str_ok X G (c.fact 14 (f := .str "GREAT" ⟨#[65, 66, 67, 68, 69, 70, 71, 72, 73, 74, 75, 76, 77, 78, 79, 80, 81, 82, 83, 84, 85, 86, 87, 88, 89, 90]⟩) rfl); ⟨_, e, ⟨t, rfl⟩⟩
  g_FIGURES := let ⟨t, e⟩ := He.str_ok X G (c.fact 15 (f := .str "FIGURES" ⟨#[48, 49, 50, 51, 52, 53, 54, 55, 56, 57]⟩) rfl); ⟨_, e, ⟨t, rfl⟩⟩
  g_MOST_FIGURES := let ⟨t, e⟩ := He.int_ok X G (c.fact 16 (f := .int "MOST_FIGURES" 4) rfl); ⟨_, e, ⟨t, rfl⟩⟩
  g_MOST_ARGUMENTS := let ⟨t, e⟩ := He.int_ok X G (c.fact 17 (f := .int "MOST_ARGUMENTS" 4) rfl); ⟨_, e, ⟨t, rfl⟩⟩
  x_BadText := let e := He.exc_ok (c.fact 19 (f := .exc "BadText") rfl); ⟨e.1, He.glo_ok X G (c.fact 18 (f := .glo "BadText") rfl), e.2.1, e.2.2.1, e.2.2.2⟩
theorem says_Reader {K : PySem.W.Frag} (c : He.SaysD fa fn K) : FReader (ctx K) where
  cl := He.cls_ok (c.fact 22 (f := .cls "Reader") rfl)
  n_begun := He.noat_ok (c.fact 24 (f := .noat "Reader" "begun") rfl)
  n_lost := He.noat_ok (c.fact 25 (f := .noat "Reader" "lost") rfl)
theorem law_at {w : World} {mg : Str → Option Value} {fa' : Addr} {h : Heap} (G : h.Ns mainGlobals mg) (hmg : mg ("law" : Str) = some (.ref fa')) (Y : hkk.says w h) : ∃ K : PySem.W.Frag, K.In h ∧ LamX.LawAtS PySem.Challenge.rw_steerscreen_k10_whole_signs_read w K CX0 6 63 "_law_script" mg fa' h := by
  obtain ⟨K, X, Y⟩ := Y
  have c := Y.t.d
  refine ⟨K, X, ?_⟩
  have T := says_txt X G c
  have FFReader := says_Reader c
  obtain ⟨fd_is_sign, FD_is_sign⟩ := c.def_ 0 (d := dd_is_sign) rfl
  obtain ⟨fd_need_text, FD_need_text⟩ := c.def_ 1 (d := dd_need_text) rfl
  obtain ⟨fd_Reader_init, FD_Reader_init⟩ := c.def_ 2 (d := dd_Reader_init) rfl
  obtain ⟨fd_Reader_dropped, FD_Reader_dropped⟩ := c.def_ 3 (d := dd_Reader_dropped) rfl
  obtain ⟨fd_Reader_left, FD_Reader_left⟩ := c.def_ 4 (d := dd_Reader_left) rfl
  obtain ⟨fd_Reader_feed, FD_Reader_feed⟩ := c.def_ 5 (d := dd_Reader_feed) rfl
  obtain ⟨fd_Reader_plain, FD_Reader_plain⟩ := c.def_ 6 (d := dd_Reader_plain) rfl
  obtain ⟨fd_Reader_read, FD_Reader_read⟩ := c.def_ 7 (d := dd_Reader_read) rfl
  obtain ⟨fd_Reader_can_go_on, FD_Reader_can_go_on⟩ := c.def_ 8 (d := dd_Reader_can_go_on) rfl
  obtain ⟨fd_Reader_whole, FD_Reader_whole⟩ := c.def_ 9 (d := dd_Reader_whole) rfl
  obtain ⟨fd_told, FD_told⟩ := c.def_ 10 (d := dd_told) rfl
  obtain ⟨fd_written, FD_written⟩ := c.def_ 11 (d := dd_written) rfl
  obtain ⟨fd__law_cell, FD__law_cell⟩ := c.def_ 12 (d := dd__law_cell) rfl
  obtain ⟨fd__law_drawn, FD__law_drawn⟩ := c.def_ 13 (d := dd__law_drawn) rfl
  obtain ⟨fd__law_one, FD__law_one⟩ := c.def_ 14 (d := dd__law_one) rfl
  obtain ⟨fd__law_row, FD__law_row⟩ := c.def_ 15 (d := dd__law_row) rfl
  obtain ⟨fd__law_text, FD__law_text⟩ := c.def_ 16 (d := dd__law_text) rfl
  obtain ⟨fd__law_broken, FD__law_broken⟩ := c.def_ 17 (d := dd__law_broken) rfl
  obtain ⟨fd_law, FD_law⟩ := c.def_ 18 (d := dd_law) rfl
  obtain ⟨fd__law_told, FD__law_told⟩ := c.def_ 19 (d := dd__law_told) rfl
  obtain ⟨cdl, hcl⟩ : ∃ cdl, fd_law.code = .ref cdl := by
    obtain ⟨oc, od, dV, kV, doc, pm, an, cdv, ct, osl, rfl, lk, hcd, _, _⟩ := FD_law.ex
    exact He.codeIn_ref hcd
  have eC : He.codeOf K ("law", none) = cdl := by
    obtain ⟨oc, od, dV, kV, doc, pm, an, cdv, ct, osl, rfl, lk, hcd, _, _⟩ := FD_law.ex
    exact He.codeOf_eq (p := ("law", none)) lk hcl
  have e := hmg.symm.trans (He.glo_ok X G (c.fact 43 (f := .glo "law") rfl))
  cases e
  refine ⟨fd_law, [He.cT K ("law", none)], sp_law (ctx K), fun p hp => ?_, fun p hp => ?_, fun p hp => ?_, fun s u => ?_, ?_, ?_⟩
  · rw [List.mem_singleton.mp hp]; exact Y.empty _ List.mem_cons_self
  · rw [List.mem_singleton.mp hp]; exact Y.out _ List.mem_cons_self
  · rw [List.mem_singleton.mp hp]; exact PySem.W.codeHd_of_K X (Y.hd _ List.mem_cons_self)
  · exact FunD.bindsA (ps := ["_law_script"]) FD_law (fun _ _ _ _ _ _ us hl => match us, hl with | [_], _ => rfl) s [u] rfl
  · intro H a ns hl hb hT hS
    refine ⟨a, ns, H, rfl, hS, hl, fun n hn => cell_bit (hb n hn), fun q hq => ?_, Hold.start H, fun _ => rfl⟩
    rw [List.mem_singleton.mp hq]
    exact ⟨#[], hT _ List.mem_cons_self, trivial, fun pos cv z => by cases z⟩
  · intro base hK hN hTB
    have D__law_drawn : DefX (PySem.Challenge.rw_steerscreen_k10_whole_signs_read).prog w (ctx K).K mg base CX0 "_law_drawn" 1 ["_law_cell_here", "_law_k"] (sp__law_drawn (ctx K)) := ⟨_, fd__law_drawn, (ok__law_drawn (funD_fun FD__law_drawn) T rd__law_drawn (by intro vs H Q E h; repeat (first | (obtain ⟨rfl, _⟩ := h; rfl) | (obtain ⟨_, h⟩ := h))) ), He.glo_ok X G (c.fact 38 (f := .glo "_law_drawn") rfl), FD__law_drawn.kp, FD__law_drawn.bindsN (fun _ _ _ _ _ _ us hl => match us, hl with | [_, _], _ => rfl)⟩
    have D__law_cell : DefX (PySem.Challenge.rw_steerscreen_k10_whole_signs_read).prog w (ctx K).K mg base CX0 "_law_cell" 1 ["_law_script", "_law_k"] (sp__law_cell (ctx K)) := ⟨_, fd__law_cell, (ok__law_cell (funD_fun FD__law_cell) T rd__law_cell (by intro vs H Q E h; repeat (first | (obtain ⟨rfl, _⟩ := h; rfl) | (obtain ⟨_, h⟩ := h))) ), He.glo_ok X G (c.fact 37 (f := .glo "_law_cell") rfl), FD__law_cell.kp, FD__law_cell.bindsN (fun _ _ _ _ _ _ us hl => match us, hl with | [_, _], _ => rfl)⟩
    have D__law_one : DefX (PySem.Challenge.rw_steerscreen_k10_whole_signs_read).prog w (ctx K).K mg base CX0 "_law_one" 2 ["_law_more"] (sp__law_one (ctx K)) := ⟨_, fd__law_one, (ok__law_one (funD_fun FD__law_one) T rd__law_one (by intro vs H Q E h; repeat (first | (obtain ⟨rfl, _⟩ := h; rfl) | (obtain ⟨_, h⟩ := h))) D__law_drawn), He.glo_ok X G (c.fact 39 (f := .glo "_law_one") rfl), FD__law_one.kp, FD__law_one.bindsN (fun _ _ _ _ _ _ us hl => match us, hl with | [_], _ => rfl)⟩
    have D__law_row : DefX (PySem.Challenge.rw_steerscreen_k10_whole_signs_read).prog w (ctx K).K mg base CX0 "_law_row" 3 ["_law_more", "_law_many"] (sp__law_row (ctx K)) := ⟨_, fd__law_row, (ok__law_row (funD_fun FD__law_row) T rd__law_row (by intro vs H Q E h; repeat (first | (obtain ⟨rfl, _⟩ := h; rfl) | (obtain ⟨_, h⟩ := h))) D__law_drawn D__law_one), He.glo_ok X G (c.fact 40 (f := .glo "_law_row") rfl), FD__law_row.kp, FD__law_row.bindsN (fun _ _ _ _ _ _ us hl => match us, hl with | [_, _], _ => rfl)⟩
    have D__law_text : DefX (PySem.Challenge.rw_steerscreen_k10_whole_signs_read).prog w (ctx K).K mg base CX0 "_law_text" 1 ["_law_row_here"] (sp__law_text (ctx K)) := ⟨_, fd__law_text, (ok__law_text (funD_fun FD__law_text) T rd__law_text (by intro vs H Q E h; repeat (first | (obtain ⟨rfl, _⟩ := h; rfl) | (obtain ⟨_, h⟩ := h))) ), He.glo_ok X G (c.fact 41 (f := .glo "_law_text") rfl), FD__law_text.kp, FD__law_text.bindsN (fun _ _ _ _ _ _ us hl => match us, hl with | [_], _ => rfl)⟩
    have D__law_broken : DefX (PySem.Challenge.rw_steerscreen_k10_whole_signs_read).prog w (ctx K).K mg base CX0 "_law_broken" 1 ["_law_more"] (sp__law_broken (ctx K)) := ⟨_, fd__law_broken, (ok__law_broken (funD_fun FD__law_broken) T rd__law_broken (by intro vs H Q E h; repeat (first | (obtain ⟨rfl, _⟩ := h; rfl) | (obtain ⟨_, h⟩ := h))) ), He.glo_ok X G (c.fact 42 (f := .glo "_law_broken") rfl), FD__law_broken.kp, FD__law_broken.bindsN (fun _ _ _ _ _ _ us hl => match us, hl with | [_], _ => rfl)⟩
    have D_written : DefX (PySem.Challenge.rw_steerscreen_k10_whole_signs_read).prog w (ctx K).K mg base CX0 "written" 1 ["row"] (sp_written (ctx K)) := ⟨_, fd_written, (ok_written (funD_fun FD_written) T rd_written (by intro vs H Q E h; repeat (first | (obtain ⟨rfl, _⟩ := h; rfl) | (obtain ⟨_, h⟩ := h))) ), He.glo_ok X G (c.fact 36 (f := .glo "written") rfl), FD_written.kp, FD_written.bindsN (fun _ _ _ _ _ _ us hl => match us, hl with | [_], _ => rfl)⟩
    have D_is_sign : DefX (PySem.Challenge.rw_steerscreen_k10_whole_signs_read).prog w (ctx K).K mg base CX0 "is_sign" 1 ["sign"] (sp_is_sign (ctx K)) := ⟨_, fd_is_sign, (ok_is_sign (funD_fun FD_is_sign) T rd_is_sign (by intro vs H Q E h; repeat (first | (obtain ⟨rfl, _⟩ := h; rfl) | (obtain ⟨_, h⟩ := h))) ), He.glo_ok X G (c.fact 33 (f := .glo "is_sign") rfl), FD_is_sign.kp, FD_is_sign.bindsN (fun _ _ _ _ _ _ us hl => match us, hl with | [_], _ => rfl)⟩
    have D_need_text : DefX (PySem.Challenge.rw_steerscreen_k10_whole_signs_read).prog w (ctx K).K mg base (L2.CX _ w) "need_text" 2 ["text"] (sp_need_text (ctx K)) := ⟨_, fd_need_text, (ok_need_text (funD_fun FD_need_text) T rd_need_text (by intro vs H Q E h; repeat (first | (obtain ⟨rfl, _⟩ := h; rfl) | (obtain ⟨_, h⟩ := h))) D_is_sign), He.glo_ok X G (c.fact 34 (f := .glo "need_text") rfl), FD_need_text.kp, FD_need_text.bindsN (fun _ _ _ _ _ _ us hl => match us, hl with | [_], _ => rfl)⟩
    have D_Reader_plain : MethX (PySem.Challenge.rw_steerscreen_k10_whole_signs_read).prog w (ctx K).K mg base CX0 (ctx K).cReader "plain" 1 ["self", "sign"] (sp_Reader_plain (ctx K)) := ⟨_, fd_Reader_plain, (ok_Reader_plain (funD_fun FD_Reader_plain) T (rd_Reader_plain FFReader) (by intro vs H Q E h; repeat (first | (obtain ⟨rfl, _⟩ := h; rfl) | (obtain ⟨_, h⟩ := h))) ), He.cls_ok (c.fact 22 (f := .cls "Reader") rfl), He.meth_ok (c.fact 29 (f := .meth "Reader" "plain") rfl), FD_Reader_plain.bindsN (fun _ _ _ _ _ _ us hl => match us, hl with | [_, _], _ => rfl)⟩
    have D_Reader_can_go_on : MethX (PySem.Challenge.rw_steerscreen_k10_whole_signs_read).prog w (ctx K).K mg base CX0 (ctx K).cReader "can_go_on" 1 ["self", "sign"] (sp_Reader_can_go_on (ctx K)) := ⟨_, fd_Reader_can_go_on, (ok_Reader_can_go_on (funD_fun FD_Reader_can_go_on) T (rd_Reader_can_go_on FFReader) (by intro vs H Q E h; repeat (first | (obtain ⟨rfl, _⟩ := h; rfl) | (obtain ⟨_, h⟩ := h))) ), He.cls_ok (c.fact 22 (f := .cls "Reader") rfl), He.meth_ok (c.fact 31 (f := .meth "Reader" "can_go_on") rfl), FD_Reader_can_go_on.bindsN (fun _ _ _ _ _ _ us hl => match us, hl with | [_, _], _ => rfl)⟩
    have D_Reader_whole : MethX (PySem.Challenge.rw_steerscreen_k10_whole_signs_read).prog w (ctx K).K mg base CX0 (ctx K).cReader "whole" 1 ["self"] (sp_Reader_whole (ctx K)) := ⟨_, fd_Reader_whole, (ok_Reader_whole (funD_fun FD_Reader_whole) T (rd_Reader_whole FFReader) (by intro vs H Q E h; repeat (first | (obtain ⟨rfl, _⟩ := h; rfl) | (obtain ⟨_, h⟩ := h))) ), He.cls_ok (c.fact 22 (f := .cls "Reader") rfl), He.meth_ok (c.fact 32 (f := .meth "Reader" "whole") rfl), FD_Reader_whole.bindsN (fun _ _ _ _ _ _ us hl => match us, hl with | [_], _ => rfl)⟩
    have D_Reader_read : MethX (PySem.Challenge.rw_steerscreen_k10_whole_signs_read).prog w (ctx K).K mg base CX0 (ctx K).cReader "read" 2 ["self", "sign"] (sp_Reader_read (ctx K)) := ⟨_, fd_Reader_read, (ok_Reader_read (funD_fun FD_Reader_read) T (rd_Reader_read FFReader) (by intro vs H Q E h; repeat (first | (obtain ⟨rfl, _⟩ := h; rfl) | (obtain ⟨_, h⟩ := h))) D_Reader_plain D_Reader_can_go_on D_Reader_whole), He.cls_ok (c.fact 22 (f := .cls "Reader") rfl), He.meth_ok (c.fact 30 (f := .meth "Reader" "read") rfl), FD_Reader_read.bindsN (fun _ _ _ _ _ _ us hl => match us, hl with | [_, _], _ => rfl)⟩
    have D_Reader_feed : MethX (PySem.Challenge.rw_steerscreen_k10_whole_signs_read).prog w (ctx K).K mg base (L2.CX _ w) (ctx K).cReader "feed" 3 ["self", "text"] (sp_Reader_feed (ctx K)) := ⟨_, fd_Reader_feed, (ok_Reader_feed (funD_fun FD_Reader_feed) T (rd_Reader_feed FFReader) (by intro vs H Q E h; repeat (first | (obtain ⟨rfl, _⟩ := h; rfl) | (obtain ⟨_, h⟩ := h))) D_need_text D_Reader_read), He.cls_ok (c.fact 22 (f := .cls "Reader") rfl), He.meth_ok (c.fact 28 (f := .meth "Reader" "feed") rfl), FD_Reader_feed.bindsN (fun _ _ _ _ _ _ us hl => match us, hl with | [_, _], _ => rfl)⟩
    have D_Reader_init : InitX (PySem.Challenge.rw_steerscreen_k10_whole_signs_read).prog w (ctx K).K mg base CX0 "Reader" (ctx K).cReader 1 ["self"] (sp_Reader_init (ctx K)) := ⟨_, fd_Reader_init, (ok_Reader_init (funD_fun FD_Reader_init) T (rd_Reader_init FFReader) (by intro vs H Q E h; repeat (first | (obtain ⟨rfl, _⟩ := h; rfl) | (obtain ⟨_, h⟩ := h))) ), He.mkr_ok (c.fact 23 (f := .mkr "Reader") rfl), He.glo_ok X G (c.fact 21 (f := .glo "Reader") rfl), FD_Reader_init.bindsN (fun _ _ _ _ _ _ us hl => match us, hl with | [_], _ => rfl)⟩
    have D_told : DefX (PySem.Challenge.rw_steerscreen_k10_whole_signs_read).prog w (ctx K).K mg base (L2.CX _ w) "told" 4 ["text"] (sp_told (ctx K)) := ⟨_, fd_told, (ok_told (funD_fun FD_told) T rd_told (by intro vs H Q E h; repeat (first | (obtain ⟨rfl, _⟩ := h; rfl) | (obtain ⟨_, h⟩ := h))) D_Reader_feed D_Reader_init), He.glo_ok X G (c.fact 35 (f := .glo "told") rfl), FD_told.kp, FD_told.bindsN (fun _ _ _ _ _ _ us hl => match us, hl with | [_], _ => rfl)⟩
    have D_Reader_left : MethX (PySem.Challenge.rw_steerscreen_k10_whole_signs_read).prog w (ctx K).K mg base CX0 (ctx K).cReader "left" 1 ["self"] (sp_Reader_left (ctx K)) := ⟨_, fd_Reader_left, (ok_Reader_left (funD_fun FD_Reader_left) T (rd_Reader_left FFReader) (by intro vs H Q E h; repeat (first | (obtain ⟨rfl, _⟩ := h; rfl) | (obtain ⟨_, h⟩ := h))) ), He.cls_ok (c.fact 22 (f := .cls "Reader") rfl), He.meth_ok (c.fact 27 (f := .meth "Reader" "left") rfl), FD_Reader_left.bindsN (fun _ _ _ _ _ _ us hl => match us, hl with | [_], _ => rfl)⟩
    have D_Reader_dropped : MethX (PySem.Challenge.rw_steerscreen_k10_whole_signs_read).prog w (ctx K).K mg base CX0 (ctx K).cReader "dropped" 1 ["self"] (sp_Reader_dropped (ctx K)) := ⟨_, fd_Reader_dropped, (ok_Reader_dropped (funD_fun FD_Reader_dropped) T (rd_Reader_dropped FFReader) (by intro vs H Q E h; repeat (first | (obtain ⟨rfl, _⟩ := h; rfl) | (obtain ⟨_, h⟩ := h))) ), He.cls_ok (c.fact 22 (f := .cls "Reader") rfl), He.meth_ok (c.fact 26 (f := .meth "Reader" "dropped") rfl), FD_Reader_dropped.bindsN (fun _ _ _ _ _ _ us hl => match us, hl with | [_], _ => rfl)⟩
    have TB := hTB _ List.mem_cons_self
    have TOLD : ToldOk (PySem.Challenge.rw_steerscreen_k10_whole_signs_read).prog w (ctx K).K mg (defArgs st__law_told) (defBody st__law_told) (defScope st__law_told) := toldOk (funD_fun FD__law_told) (He.glo_ok X G (c.fact 44 (f := .glo "_law_told") rfl)) (He.glo_ok X G (c.fact 20 (f := .glo "ScreenError") rfl))
    have hcl' : fd_law.code = .ref (He.cT K ("law", none)).1 := by rw [hcl]; exact congrArg Value.ref eC.symm
    exact (ok_law (c := ctx K) (funD_fun FD_law) hcl' rfl TB TOLD T rd_law (by intro vs H Q E h; repeat (first | (obtain ⟨rfl, _⟩ := h; rfl) | (obtain ⟨_, h⟩ := h))) D__law_drawn D__law_cell D__law_row D__law_text D__law_broken D_written D_told D_Reader_init D_Reader_feed D_Reader_left D_Reader_dropped).mono (by decide)
end Ss
open PySem PySem.W PySem.Calls PyProof.Rows in
theorem PySem.Challenge.cw_steerscreen_k10_whole_signs_read_holds : PySem.Challenge.rw_steerscreen_k10_whole_signs_read.Holds := by
  w_on; o_law
  refine HandSHeadRun.head_any (r := OpenLaw.row PySem.Challenge.rw_steerscreen_k10_whole_signs_read) (q := view (OpenLaw.row PySem.Challenge.rw_steerscreen_k10_whole_signs_read).prog [29]) (H := Ss.hkk) (ob := Ss.ob) (M := 3000) (loose := Ss.loose) (d := HandSHeadRun.topDef (OpenLaw.row PySem.Challenge.rw_steerscreen_k10_whole_signs_read).prog 29) (kwd := []) Ss.ob_eq
    (by kernel_rfl) (fun s => by kernel_rfl) Ss.run (by kernel_rfl) (by kernel_rfl) (by kernel_rfl) (by rfl) (by first | assumption | decide +kernel) (by decide +kernel) ⟨rfl, rfl, rfl, rfl, rfl, by decide +kernel⟩ ?hw ?hc
  case hw => w_witness2
  case hc =>
    refine LamX.walk_ofTsE (l := PySem.Challenge.rw_steerscreen_k10_whole_signs_read) (n := 63) (k := 6) (x := "_law_script") (CX := fun _ => L2.CX0) rfl (by decide) (by kernel_rfl) ⟨rfl, by decide, by decide⟩ ?F (fun _ _ _ _ _ z => z)
    intro w mg fa h Y G hmg0
    have hmg : mg ("law" : PySem.Str) = some (.ref fa) := by
      have e : (HandSHeadRun.topDef (OpenLaw.row PySem.Challenge.rw_steerscreen_k10_whole_signs_read).prog 29).name = ("law" : PySem.Str) := by kernel_rfl
      rw [← e]
      exact hmg0
    exact Ss.law_at G hmg Y
