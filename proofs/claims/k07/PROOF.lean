import PyProof.Rows.All
import Wide.All
import OpenK.AllK
import Wide.FinOn
import PyProof.EqAt
import PyProof.EqKinds
import PyProof.TupleCall
import HandS.ForMost
import HandS.Wide
import HandS.IsInst
import HandS.SortInts
import HandS.Zip
import HandS.Flow
import KE.DataEq
import PyProof.Rows.IntBool
import HandS.SetFor
import HandS.Strs
import HandS.TupAny
import HandS.Walk
import HandS.Style
import HandS.TupMul
import HandS.More
import KE.KDictPairs
import KE.KUnpackStar
import HandS.Star
import KE.GoesMore
import PySem.Challenge.RW_tidecopy_k07_least_moments
set_option Elab.async false
set_option linter.all false
set_option maxRecDepth 100000
/-! Rules whose readings reckon by themselves: values are looked at by match, so that what a step asks is found by unfolding. -/
namespace Tc
open PySem PySem.Spec PyProof.Rows L2
/-! ### weaker readings -/
theorem pe_of {X : Cx} {e : Expr} {t u : TE} (h : PE X e t) (k : ∀ σ H Q, u σ H Q → t σ H Q) : PE X e u := ⟨fun pins s σ H Q I q => h.run pins s σ H Q I (k σ H Q q)⟩
theorem pt_of {X : Cx} {e : Expr} {t u : TT} (h : PT X e t) (k : ∀ σ H Q, u σ H Q → t σ H Q) : PT X e u := ⟨fun pins s σ H Q I q => h.run pins s σ H Q I (k σ H Q q)⟩
theorem op_of {X : Cx} {f : Value → Value → Sem Value} {r u : R2} (h : OpR X f r) (k : ∀ x y H Q, u x y H Q → r x y H Q) : OpR X f u := fun pins s σ H x y v w Q I rx ry q => h pins s σ H x y v w Q I rx ry (k x y H Q q)
/-! ### names -/
def tV (i : Nat) : TE := fun σ H Q => match σ[i]? with
  | some (some v) => Q v H
  | _ => False
theorem pn {X : Cx} (i : Nat) {x : Str} {pos : Pos} (hN : X.N[i]? = some x := by rfl) (hv : Vis X.env.scope x := by first | exact Or.inl rfl | exact Or.inr (Or.inl rfl) | exact Or.inr (Or.inr rfl)) (hd : (x == ("__debug__" : Str)) = false := by decide)
    (hcd : (x == ("__classdict__" : Str)) = false := by decide) : PE X (.Name x pos) (tV i) := pe_of (pe_var hN hv hd hcd) fun σ H Q q => by
  unfold tV at q
  split at q
  · rename_i v e
    exact ⟨v, e, q⟩
  · exact q.elim
/-! ### operators -/
/-- a + b: ints, texts, lists, tuples -/
def rAddG (K : PySem.W.Frag) : R2 := fun x y H Q => match x, y with
  | .int i, .int j => Q (.int (i + j)) H
  | .bl i, .int j => Q (.int ((if i = true then (1 : Int) else 0) + j)) H
  | .str i, .str j => i.length + j.length ≤ sizeLine ∧ Q (.str (i ++ j)) H
  | x, y => rCat x y H Q ∨ rCatT K x y H Q
theorem op_addG {X : Cx} : OpR X (binaryOp .Add) (rAddG X.K) := fun pins s σ H x y v u Q I rx ry q => by
  unfold rAddG at q
  split at q
  · exact op_add pins s σ H _ _ v u Q I rx ry ⟨_, _, rfl, rfl, q⟩
  · cases rx
    obtain ⟨t, rfl⟩ := ry
    exact IntBool.add_bool_int ⟨.int _, H, I.tok _, ⟨_, rfl⟩, q⟩
  · exact op_add_str pins s σ H _ _ v u Q I rx ry ⟨_, _, rfl, rfl, q⟩
  · rcases q with q | q
    · exact op_cat pins s σ H _ _ v u Q I rx ry q
    · exact op_catT pins s σ H _ _ v u Q I rx ry q
/-- two ints -/
def rII (C : Int → Int → Prop) (g : Int → Int → V) : R2 := fun x y H Q => match x, y with
  | .int i, .int j => C i j ∧ Q (g i j) H
  | _, _ => False
def rII0 (g : Int → Int → V) : R2 := fun x y H Q => match x, y with
  | .int i, .int j => Q (g i j) H
  | _, _ => False
theorem op_II {X : Cx} {f : Value → Value → Sem Value} {C : Int → Int → Prop} {g : Int → Int → V} (h : OpR X f (rI C g)) : OpR X f (rII C g) := op_of h fun x y H Q q => by
  unfold rII at q
  split at q
  · exact ⟨_, _, rfl, rfl, q⟩
  · exact q.elim
theorem op_II0 {X : Cx} {f : Value → Value → Sem Value} {g : Int → Int → V} (h : OpR X f (rI0 g)) : OpR X f (rII0 g) := op_of h fun x y H Q q => by
  unfold rII0 at q
  split at q
  · exact ⟨_, _, rfl, rfl, q⟩
  · exact q.elim
def rSubG : R2 := fun x y H Q => match x, y with
  | .int i, .int j => Q (.int (i - j)) H
  | .bl i, .int j => Q (.int ((if i = true then (1 : Int) else 0) - j)) H
  | _, _ => False
theorem op_subG {X : Cx} : OpR X (binaryOp .Sub) rSubG := fun pins s σ H x y v u Q I rx ry q => by
  unfold rSubG at q
  split at q
  · exact op_sub pins s σ H _ _ v u Q I rx ry ⟨_, _, rfl, rfl, q⟩
  · cases rx
    obtain ⟨t, rfl⟩ := ry
    exact IntBool.sub_bool_int ⟨.int _, H, I.tok _, ⟨_, rfl⟩, q⟩
  · exact q.elim
/-- a * b: two ints together below a million bits -/
theorem op_mulG {X : Cx} : OpR X (binaryOp .Mult) (rII CMulW fun i j => .int (i * j)) := op_II op_mulW
theorem op_fdivG {X : Cx} : OpR X (binaryOp .FloorDiv) (rII CDivW fun i j => .int (i / j)) := op_II op_fdivW
theorem op_modG {X : Cx} : OpR X (binaryOp .Mod) (rII (fun _ j => 0 < j) fun i j => .int (i % j)) := op_II op_mod
theorem op_powG {X : Cx} : OpR X (binaryOp .Pow) (rII CPow fun i j => .int (i ^ j.toNat)) := op_II op_pow
def rNegG : V → Hp → VK → Prop := fun x H Q => match x with
  | .int i => Q (.int (-i)) H
  | .bl i => Q (.int (-(if i = true then (1 : Int) else 0))) H
  | _ => False
theorem gives_neg_bool (a : Bool) : Gives (Builtin.«int.__neg__» ⟨[.bool a], []⟩) (.int (-(if a = true then (1 : Int) else 0))) :=
  .of_wp fun M A E s Q h => by obtain ⟨hp, g, d, tk, os⟩ := s; wp_walk; exact ⟨_, rfl, h⟩
theorem un_negG {X : Cx} : UnR X (unaryOp .USub) rNegG := fun pins s σ H x v Q I rx q => by
  unfold rNegG at q
  split at q
  · exact un_neg pins s σ H _ v Q I rx ⟨_, rfl, q⟩
  · cases rx
    exact unaryOp_gives (op := .USub) rfl rfl PySem.F.slot_bool_neg PySem.F.entry_int_neg (PySem.F.args_int_neg_1 _) (gives_neg_bool _) ⟨.int _, H, I.tok _, ⟨_, rfl⟩, q⟩
  · exact q.elim
/-! ### comparisons -/
/-- a < b and its like: ints -/
theorem op_ltG {X : Cx} : OpR X (compareOp .Lt) (rII0 fun i j => .bl (decide (i < j))) := op_II0 op_lt
theorem op_leG {X : Cx} : OpR X (compareOp .LtE) (rII0 fun i j => .bl (decide (i ≤ j))) := op_II0 op_le
theorem op_gtG {X : Cx} : OpR X (compareOp .Gt) (rII0 fun i j => .bl (decide (j < i))) := op_II0 op_gt
theorem op_geG {X : Cx} : OpR X (compareOp .GtE) (rII0 fun i j => .bl (decide (j ≤ i))) := op_II0 op_ge
mutual
theorem dp_plain {K : PySem.W.Frag} {H : Hp} : ∀ {v : V} {d : PyData}, Dp K H v d → d.plain = true
  | _, _, .non => rfl
  | _, _, .bl b => rfl
  | _, _, .int i => rfl
  | _, _, .str x => rfl
  | _, _, .lst h t => by simp only [PyData.plain]; exact dps_plain t
  | _, _, .tup h t => by simp only [PyData.plain]; exact dps_plain t
theorem dps_plain {K : PySem.W.Frag} {H : Hp} : ∀ {v : List V} {d : List PyData}, DpAll K H v d → PyData.plainAll d = true
  | _, _, .nil => rfl
  | _, _, .cons h t => by simp only [PyData.plainAll, dp_plain h, dps_plain t, Bool.and_self]
end
/-- ==, != of data -/
def rEqP (K : PySem.W.Frag) : R2 := fun x y H Q => ∃ d e, Dp K H x d ∧ Dp K H y e ∧ (d.depth ≤ 60 ∨ e.depth ≤ 60) ∧ Q (.bl (PyData.eqv d e)) H
def rNeP (K : PySem.W.Frag) : R2 := fun x y H Q => ∃ d e, Dp K H x d ∧ Dp K H y e ∧ (d.depth ≤ 60 ∨ e.depth ≤ 60) ∧ Q (.bl (!PyData.eqv d e)) H
theorem op_eqP {X : Cx} (hu : X.A.units + 64 < cLine) : OpR X (compareOp .Eq) (rEqP X.K) := fun pins s σ H x y v u Q I rx ry q => by
  obtain ⟨d, e, hd, he, hm, q⟩ := q
  obtain ⟨as, r1⟩ := Dp.reads I d x v hd rx
  obtain ⟨bs, r2⟩ := Dp.reads I e y u he ry
  exact SeqAt.eq_plain r1 r2 (dp_plain hd) (dp_plain he) (by omega) ⟨.bl _, H, I, rfl, q⟩
theorem op_neP {X : Cx} (hu : X.A.units + 64 < cLine) : OpR X (compareOp .NotEq) (rNeP X.K) := fun pins s σ H x y v u Q I rx ry q => by
  obtain ⟨d, e, hd, he, hm, q⟩ := q
  obtain ⟨as, r1⟩ := Dp.reads I d x v hd rx
  obtain ⟨bs, r2⟩ := Dp.reads I e y u he ry
  exact SeqAt.ne_plain r1 r2 (dp_plain hd) (dp_plain he) (by omega) ⟨.bl _, H, I, rfl, q⟩
/-- ==, != -/
def rEqG (K : PySem.W.Frag) : R2 := fun x y H Q => match x, y with
  | .int i, .int j => Q (.bl (decide (i = j))) H
  | .str i, .str j => Q (.bl (decide (i = j))) H
  | .bl i, .bl j => Q (.bl (decide (i = j))) H
  | x, y => rEqP K x y H Q
def rNeG (K : PySem.W.Frag) : R2 := fun x y H Q => match x, y with
  | .int i, .int j => Q (.bl (!decide (i = j))) H
  | .str i, .str j => Q (.bl (!decide (i = j))) H
  | .bl i, .bl j => Q (.bl (!decide (i = j))) H
  | x, y => rNeP K x y H Q
theorem dI {i j : Int} : decide (V.int i = V.int j) = decide (i = j) := by simp
theorem dS {i j : Str} : decide (V.str i = V.str j) = decide (i = j) := by simp
theorem dB {i j : Bool} : decide (V.bl i = V.bl j) = decide (i = j) := by simp
theorem op_eqG {X : Cx} (hu : X.A.units + 64 < cLine) : OpR X (compareOp .Eq) (rEqG X.K) := fun pins s σ H x y v u Q I rx ry q => by
  unfold rEqG at q
  split at q
  · exact op_eq pins s σ H _ _ v u Q I rx ry ⟨rfl, by rw [dI]; exact q⟩
  · exact op_eq pins s σ H _ _ v u Q I rx ry ⟨rfl, by rw [dS]; exact q⟩
  · exact op_eq pins s σ H _ _ v u Q I rx ry ⟨rfl, by rw [dB]; exact q⟩
  · exact op_eqP hu pins s σ H _ _ v u Q I rx ry q
theorem op_neG {X : Cx} (hu : X.A.units + 64 < cLine) : OpR X (compareOp .NotEq) (rNeG X.K) := fun pins s σ H x y v u Q I rx ry q => by
  unfold rNeG at q
  split at q
  · exact op_ne pins s σ H _ _ v u Q I rx ry ⟨rfl, by rw [dI]; exact q⟩
  · exact op_ne pins s σ H _ _ v u Q I rx ry ⟨rfl, by rw [dS]; exact q⟩
  · exact op_ne pins s σ H _ _ v u Q I rx ry ⟨rfl, by rw [dB]; exact q⟩
  · exact op_neP hu pins s σ H _ _ v u Q I rx ry q
/-- is None -/
def rIsNG : R2 := fun x y H Q => match y with
  | .non => Q (.bl (decide (x = .non))) H
  | _ => False
def rNotNG : R2 := fun x y H Q => match y with
  | .non => Q (.bl (!decide (x = .non))) H
  | _ => False
theorem op_isG {X : Cx} : OpR X (compareOp .Is) rIsNG := op_of op_isN fun x y H Q q => by
  unfold rIsNG at q
  split at q
  · exact ⟨rfl, q⟩
  · exact q.elim
theorem op_isnotG {X : Cx} : OpR X (compareOp .IsNot) rNotNG := op_of op_notN fun x y H Q q => by
  unfold rNotNG at q
  split at q
  · exact ⟨rfl, q⟩
  · exact q.elim
/-! ### tests -/
def kTest (Q : Bool → Hp → Prop) : VK := fun x H' => match x with
  | .bl k => Q k H'
  | _ => False
def tTestG (t : TE) : TT := fun σ H Q => t σ H (kTest Q)
theorem pt_cmpG {X : Cx} {op : CmpOp} {a b : Expr} {ta tb : TE} {pos : Pos} {r : R2} (ho : OpR X (compareOp op) r) (ha : PE X a ta) (hb : PE X b tb) (hm : behindInMarks op b = false) : PT X (.Compare a [op] [b] pos) (tTestG (tOp r ta tb)) := by
  refine ⟨fun pins s σ H Q I hw => ?_⟩
  refine wpAny_isTrue_Compare1 (thn (ha.run pins s σ H _ I hw) fun v s1 ⟨x, H1, I1, r1, q1⟩ => thn (hb.run pins s1 σ H1 _ I1 q1) fun u s2 ⟨y, H2, I2, r2, q2⟩ => thn (ho pins s2 σ H2 x y v u _ I2 r1 r2 q2) fun c s3 ⟨z, H3, I3, r3, q3⟩ => ?_) hm
  cases z with
  | bl k =>
    cases r3
    exact wpAny_truthy_bool ⟨H3, I3, q3⟩
  | _ => exact (show False from q3).elim
/-- a < b < c -/
def kChain (r' : R2) (tc : TE) (σ : L2.St) (y : V) (Q : VK) : VK := fun z H3 => match z with
  | .bl k => if k = true then tc σ H3 fun w' H4 => r' y w' H4 Q else Q (.bl false) H3
  | _ => False
def tChainG (r r' : R2) (ta tb tc : TE) : TE := fun σ H Q => ta σ H fun x H1 => tb σ H1 fun y H2 => r x y H2 (kChain r' tc σ y Q)
end Tc

/-! Further rules; data as values of Lean. -/
namespace Tc
open PySem PySem.Spec PyProof.Rows L2
section
variable {X : Cx} {a b c e : Expr} {ta tb tc te : TE} {pos : Pos}
theorem pe_chainG {op op' : CmpOp} {r r' : R2} (ho : OpR X (compareOp op) r) (ho' : OpR X (compareOp op') r') (ha : PE X a ta) (hb : PE X b tb) (hc : PE X c tc)
    (hm : lastMarks [op, op'] [b, c] = false := by with_unfolding_all rfl) : PE X (.Compare a [op, op'] [b, c] pos) (tChainG r r' ta tb tc) := by
  refine ⟨fun pins s σ H Q I h => ?_⟩
  refine Compare_chain (thn (ha.run pins s σ H _ I h) fun v s1 ⟨x, H1, I1, r1, q1⟩ => chain_link (thn (hb.run pins s1 σ H1 _ I1 q1) fun u s2 ⟨y, H2, I2, r2, q2⟩ =>
    thn (ho pins s2 σ H2 x y v u _ I2 r1 r2 q2) fun d s3 ⟨z, H3, I3, r3, q3⟩ => ?_)) hm
  cases z with
  | bl k =>
    cases r3
    refine wpAny_truthy_bool ?_
    cases k with
    | false => exact ite_ff ⟨.bl false, H3, I3, rfl, q3⟩
    | true => exact ite_tt (chain_last (thn (hc.run pins s3 σ H3 _ I3 q3) fun w' s4 ⟨z', H4, I4, r4, q4⟩ => ho' pins s4 σ H4 y z' u w' Q I4 r2 r4 q4))
  | _ => exact (show False from q3).elim
/-- an expression's truth as a test -/
def kTru (K : PySem.W.Frag) (Q : Bool → Hp → Prop) : VK := fun x H' => match x with
  | .bl k => Q k H'
  | .non => Q false H'
  | .int i => Q (i != 0) H'
  | .str z => z.length ≤ sizeLine ∧ Q ((z.length : Int) != 0) H'
  | x => ∃ k, TruV K x H' k ∧ Q k H'
def tTruG (K : PySem.W.Frag) (t : TE) : TT := fun σ H Q => t σ H (kTru K Q)
theorem pt_tru (ha : PE X a ta) (he : ∀ whole, isTrue a X.env whole = (do let v ← whole; standAt a.pos; holding [v] (truthy v)) := by intro _; rfl) : PT X a (tTruG X.K ta) := by
  refine ⟨fun pins s σ H Q I h => ?_⟩
  exact isTrue_plain (thn (ha.run pins s σ H _ I h) fun v s1 ⟨x, H1, I1, r1, q1⟩ => tru_ok pins s1 σ H1 x v Q I1 r1 (by
    unfold kTru at q1
    split at q1
    · exact ⟨_, rfl, q1⟩
    · exact ⟨_, rfl, q1⟩
    · exact ⟨_, rfl, q1⟩
    · exact ⟨_, ⟨q1.1, rfl⟩, q1.2⟩
    · exact q1)) (he _)
/-- a and b, a or b as values, the first ones truths -/
def kAnd (tb : TE) (σ : L2.St) (Q : VK) : VK := fun x H1 => match x with
  | .bl k => if k = true then tb σ H1 Q else Q (.bl false) H1
  | _ => False
def kOr (tb : TE) (σ : L2.St) (Q : VK) : VK := fun x H1 => match x with
  | .bl k => if k = true then Q (.bl true) H1 else tb σ H1 Q
  | _ => False
def tAndG (ta tb : TE) : TE := fun σ H Q => ta σ H (kAnd tb σ Q)
def tOrG (ta tb : TE) : TE := fun σ H Q => ta σ H (kOr tb σ Q)
variable {rest : List Expr}
theorem pe_andG (ha : PE X a ta) (hb : PE X (.BoolOp .And (b :: rest) pos) tb) : PE X (.BoolOp .And (a :: b :: rest) pos) (tAndG ta tb) := by
  refine ⟨fun pins s σ H Q I h => ?_⟩
  refine BoolOp_and (thn (ha.run pins s σ H _ I h) fun v s1 ⟨x, H1, I1, r1, q1⟩ => ?_)
  cases x with
  | bl k =>
    cases r1
    refine wpAny_truthy_bool ?_
    cases k with
    | true => exact hb.run pins s1 σ H1 Q I1 q1
    | false => exact ⟨.bl false, H1, I1, rfl, q1⟩
  | _ => exact (show False from q1).elim
theorem pe_orG (ha : PE X a ta) (hb : PE X (.BoolOp .Or (b :: rest) pos) tb) : PE X (.BoolOp .Or (a :: b :: rest) pos) (tOrG ta tb) := by
  refine ⟨fun pins s σ H Q I h => ?_⟩
  refine BoolOp_or (thn (ha.run pins s σ H _ I h) fun v s1 ⟨x, H1, I1, r1, q1⟩ => ?_)
  cases x with
  | bl k =>
    cases r1
    refine wpAny_truthy_bool ?_
    cases k with
    | false => exact hb.run pins s1 σ H1 Q I1 q1
    | true => exact ⟨.bl true, H1, I1, rfl, q1⟩
  | _ => exact (show False from q1).elim
def kNot (Q : VK) : VK := fun x H1 => match x with
  | .bl k => Q (.bl (!k)) H1
  | _ => False
def tNotG (ta : TE) : TE := fun σ H Q => ta σ H (kNot Q)
theorem pe_notG (ha : PE X a ta) : PE X (.UnaryOp .Not a pos) (tNotG ta) := by
  refine ⟨fun pins s σ H Q I h => ?_⟩
  refine UnaryOp_ (thn (ha.run pins s σ H _ I h) fun v s1 ⟨x, H1, I1, r1, q1⟩ => ?_)
  cases x with
  | bl k =>
    cases r1
    exact not_of (wpAny_truthy_bool ⟨.bl (!k), H1, I1, rfl, q1⟩)
  | _ => exact (show False from q1).elim
/-! ### subscripts -/
/-- a list or a tuple -/
def Sq (K : PySem.W.Frag) (H : Hp) (p : Addr) (xs : List V) : Prop := SqL K H p xs ∨ SqT K H p xs
def rIxG (K : PySem.W.Frag) : R2 := fun x y H Q => match x, y with
  | .str z, .int i => z.length ≤ sizeLine ∧ ∃ c, atI z.cps.toList i = some c ∧ Q (.str ⟨#[c]⟩) H
  | .ref p, .int i => ∃ xs v, Sq K H p xs ∧ atI xs i = some v ∧ Q v H
  | _, _ => False
theorem ix_G : IxR X (rIxG X.K) := by
  intro value slice pins s σ H x y v u Q I rx ry h hs
  unfold rIxG at h
  split at h
  · obtain ⟨h1, c, h2, q⟩ := h
    exact ix_seq value slice pins s σ H _ _ v u Q I rx ry (.inr (.inr ⟨_, _, c, rfl, rfl, h1, h2, q⟩)) hs
  · obtain ⟨xs, w, h1 | h1, h2, q⟩ := h
    · exact ix_seq value slice pins s σ H _ _ v u Q I rx ry (.inl ⟨_, xs, _, w, rfl, rfl, h1, h2, q⟩) hs
    · exact ix_seq value slice pins s σ H _ _ v u Q I rx ry (.inr (.inl ⟨_, xs, _, w, rfl, rfl, h1, h2, q⟩)) hs
  · exact h.elim
def rLenG (K : PySem.W.Frag) : List V → Hp → VK → Prop := fun xs H Q => match xs with
  | [.str z] => z.length ≤ sizeLine ∧ Q (.int (z.length : Nat)) H
  | [.ref p] => ∃ xs, Sq K H p xs ∧ Q (.int (xs.length : Nat)) H
  | _ => False
theorem call_of {f : Value} {r u : List V → Hp → VK → Prop} (h : CallR X f r) (k : ∀ xs H Q, u xs H Q → r xs H Q) : CallR X f u := fun pins s σ H xs us Q I rs q => h pins s σ H xs us Q I rs (k xs H Q q)
theorem call_lenG : CallR X (.builtin "len") (rLenG X.K) := call_of call_len fun xs H Q q => by
  unfold rLenG at q
  split at q
  · exact ⟨_, _, rfl, ⟨q.1, rfl⟩, q.2⟩
  · obtain ⟨xs, h | h, q⟩ := q
    · exact ⟨_, _, rfl, .inl ⟨xs, h, rfl⟩, q⟩
    · exact ⟨_, _, rfl, .inr ⟨xs, h, rfl⟩, q⟩
  · exact q.elim
end
/-! ### data -/
mutual
/-- v is the datum d: lists stand tracked -/
inductive DV (K : PySem.W.Frag) (H : Hp) : V → PyData → Prop
  | non : DV K H .non .none
  | bl (b : Bool) : DV K H (.bl b) (.bool b)
  | int (i : Int) : DV K H (.int i) (.int i)
  | str (x : Str) : DV K H (.str x) (.str x)
  | lst {a : Addr} {xs : List V} {ds : List PyData} : H a = some (.lst xs) → DVs K H xs ds → DV K H (.ref a) (.list ds)
  | tup {a : Addr} {xs : List V} {ds : List PyData} : SqT K H a xs → DVs K H xs ds → DV K H (.ref a) (.tuple ds)
inductive DVs (K : PySem.W.Frag) (H : Hp) : List V → List PyData → Prop
  | nil : DVs K H [] []
  | cons {v : V} {vs : List V} {d : PyData} {ds : List PyData} : DV K H v d → DVs K H vs ds → DVs K H (v :: vs) (d :: ds)
end
theorem same_tup {K : PySem.W.Frag} {H H' : Hp} {a : Addr} {xs : List V} (e : Same H H') (h : SqT K H a xs) : SqT K H' a xs := by
  rcases h with (h | ⟨o, h⟩) | h
  · exact .inl (.inl (e _ _ h))
  · exact .inl (.inr ⟨o, e _ _ h⟩)
  · exact .inr h
theorem same_upd {H : Hp} {p : Addr} {o : HO} (h : H p = none) : Same H (upd H p o) := fun b x e => by
  rw [upd_ne (ne_of_none e h)]
  exact e
mutual
theorem DV.dp {K : PySem.W.Frag} {H : Hp} : ∀ {v : V} {d : PyData}, DV K H v d → Dp K H v d
  | _, _, .non => .non
  | _, _, .bl b => .bl b
  | _, _, .int i => .int i
  | _, _, .str x => .str x
  | _, _, .lst h t => .lst (SqL.of h) (DVs.dp t)
  | _, _, .tup h t => .tup h (DVs.dp t)
theorem DVs.dp {K : PySem.W.Frag} {H : Hp} : ∀ {v : List V} {d : List PyData}, DVs K H v d → DpAll K H v d
  | _, _, .nil => .nil
  | _, _, .cons h t => .cons (DV.dp h) (DVs.dp t)
end
mutual
theorem DV.same {K : PySem.W.Frag} {H H' : Hp} (e : Same H H') : ∀ {v : V} {d : PyData}, DV K H v d → DV K H' v d
  | _, _, .non => .non
  | _, _, .bl b => .bl b
  | _, _, .int i => .int i
  | _, _, .str x => .str x
  | _, _, .lst h t => .lst (e _ _ h) (DVs.same e t)
  | _, _, .tup h t => .tup (same_tup e h) (DVs.same e t)
theorem DVs.same {K : PySem.W.Frag} {H H' : Hp} (e : Same H H') : ∀ {v : List V} {d : List PyData}, DVs K H v d → DVs K H' v d
  | _, _, .nil => .nil
  | _, _, .cons h t => .cons (DV.same e h) (DVs.same e t)
end
theorem DVs.length {K : PySem.W.Frag} {H : Hp} : ∀ {v : List V} {d : List PyData}, DVs K H v d → v.length = d.length
  | _, _, .nil => rfl
  | _, _, .cons _ t => congrArg (· + 1) (DVs.length t)
theorem DVs.get {K : PySem.W.Frag} {H : Hp} : ∀ {v : List V} {d : List PyData} {i : Nat} {x : V}, DVs K H v d → v[i]? = some x → ∃ y, d[i]? = some y ∧ DV K H x y
  | _, _, _, _, .nil, e => by simp at e
  | _, _, 0, x, .cons (d := d) h t, e => ⟨d, rfl, by cases e; exact h⟩
  | _, _, i + 1, x, .cons h t, e => DVs.get (i := i) t (by simpa using e)
theorem DVs.get' {K : PySem.W.Frag} {H : Hp} : ∀ {v : List V} {d : List PyData} {i : Nat} {y : PyData}, DVs K H v d → d[i]? = some y → ∃ x, v[i]? = some x ∧ DV K H x y
  | _, _, _, _, .nil, e => by simp at e
  | v :: _, _, 0, x, .cons h t, e => ⟨v, rfl, by cases e; exact h⟩
  | _, _, i + 1, x, .cons h t, e => DVs.get' (i := i) t (by simpa using e)
theorem DVs.append {K : PySem.W.Frag} {H : Hp} : ∀ {v w : List V} {d e : List PyData}, DVs K H v d → DVs K H w e → DVs K H (v ++ w) (d ++ e)
  | _, _, _, _, .nil, h => h
  | _, _, _, _, .cons h t, h2 => .cons h (DVs.append t h2)
theorem DVs.take {K : PySem.W.Frag} {H : Hp} : ∀ {v : List V} {d : List PyData} (n : Nat), DVs K H v d → DVs K H (v.take n) (d.take n)
  | _, _, 0, _ => .nil
  | _, _, _ + 1, .nil => .nil
  | _, _, n + 1, .cons h t => .cons h (DVs.take n t)
theorem DVs.drop {K : PySem.W.Frag} {H : Hp} : ∀ {v : List V} {d : List PyData} (n : Nat), DVs K H v d → DVs K H (v.drop n) (d.drop n)
  | _, _, 0, h => h
  | _, _, _ + 1, .nil => .nil
  | _, _, n + 1, .cons h t => DVs.drop n t
theorem DVs.set {K : PySem.W.Frag} {H : Hp} : ∀ {v : List V} {d : List PyData} (n : Nat) {x : V} {y : PyData}, DVs K H v d → DV K H x y → DVs K H (v.set n x) (d.set n y)
  | _, _, _, _, _, .nil, _ => .nil
  | _, _, 0, _, _, .cons h t, q => .cons q t
  | _, _, n + 1, _, _, .cons h t, q => .cons h (DVs.set n t q)
/-- the type's name of a datum -/
def tyD : PyData → String
  | .none => "NoneType"
  | .bool _ => "bool"
  | .int _ => "int"
  | .str _ => "str"
  | .list _ => "list"
  | .tuple _ => "tuple"
  | .dict _ => "dict"
theorem DV.tyx {K : PySem.W.Frag} {H : Hp} : ∀ {v : V} {d : PyData}, DV K H v d → TyX K H v (.type (tyD d))
  | _, _, .non => .base .non
  | _, _, .bl b => .base (.bl b)
  | _, _, .int i => .base (.int i)
  | _, _, .str x => .base (.str x)
  | _, _, .lst h t => .base (.lst h)
  | _, _, .tup h t => by
    rcases h with (h | ⟨o, h⟩) | ⟨o, its, n, h1, h2, _⟩
    · exact .base (.tup h)
    · exact .fTuple h
    · exact .kTuple h1 h2
/-- the kinds that are asked -/
inductive Ty where
  | int | bool | str | tuple | list
def Ty.name : Ty → String
  | .int => "int"
  | .bool => "bool"
  | .str => "str"
  | .tuple => "tuple"
  | .list => "list"
/-- isinstance of a datum -/
def isD : PyData → Ty → Bool
  | .int _, .int => true
  | .bool _, .int => true
  | .bool _, .bool => true
  | .str _, .str => true
  | .tuple _, .tuple => true
  | .list _, .list => true
  | _, _ => false
theorem kitB_N : kitB "NoneType" "int" = some false ∧ kitB "NoneType" "bool" = some false ∧ kitB "NoneType" "str" = some false ∧ kitB "NoneType" "tuple" = some false ∧ kitB "NoneType" "list" = some false ∧
    kitB "bool" "int" = some true ∧ kitB "bool" "bool" = some true ∧ kitB "bool" "str" = some false ∧ kitB "bool" "tuple" = some false ∧ kitB "bool" "list" = some false ∧
    kitB "int" "int" = some true ∧ kitB "int" "bool" = some false ∧ kitB "int" "str" = some false ∧ kitB "int" "tuple" = some false ∧ kitB "int" "list" = some false ∧
    kitB "str" "int" = some false ∧ kitB "str" "bool" = some false ∧ kitB "str" "str" = some true ∧ kitB "str" "tuple" = some false ∧ kitB "str" "list" = some false ∧
    kitB "tuple" "int" = some false ∧ kitB "tuple" "bool" = some false ∧ kitB "tuple" "str" = some false ∧ kitB "tuple" "tuple" = some true ∧ kitB "tuple" "list" = some false ∧
    kitB "list" "int" = some false ∧ kitB "list" "bool" = some false ∧ kitB "list" "str" = some false ∧ kitB "list" "tuple" = some false ∧ kitB "list" "list" = some true ∧
    kitB "dict" "int" = some false ∧ kitB "dict" "bool" = some false ∧ kitB "dict" "str" = some false ∧ kitB "dict" "tuple" = some false ∧ kitB "dict" "list" = some false := by decide +kernel
theorem kitB_D (d : PyData) (t : Ty) : kitB (tyD d) t.name = some (isD d t) := by
  obtain ⟨a1, a2, a3, a4, a5, b1, b2, b3, b4, b5, c1, c2, c3, c4, c5, d1, d2, d3, d4, d5, e1, e2, e3, e4, e5, f1, f2, f3, f4, f5, g1, g2, g3, g4, g5⟩ := kitB_N
  cases d <;> cases t <;> assumption
def rIsiD (K : PySem.W.Frag) : List V → Hp → VK → Prop := fun xs H Q => match xs with
  | [x, .ty T] => ∃ d t, DV K H x d ∧ T = Ty.name t ∧ Q (.bl (isD d t)) H
  | [x, .ref tp] => ∃ d t u, DV K H x d ∧ H tp = some (.tup [.ty (Ty.name t), .ty (Ty.name u)]) ∧ Q (.bl (isD d t || isD d u)) H
  | _ => False
theorem call_isiD {X : Cx} : CallR X (.builtin "isinstance") (rIsiD X.K) := by
  intro pins s σ H xs us Q I rs q
  unfold rIsiD at q
  split at q
  · obtain ⟨d, t, h1, rfl, q⟩ := q
    exact call_isi pins s σ H _ us Q I rs ⟨_, _, _, _, _, rfl, .ty _, h1.tyx, kit_ty (kitB_D d t), q⟩
  · obtain ⟨d, t, u, h1, h2, q⟩ := q
    refine call_isiT pins s σ H _ us Q I rs ⟨_, _, _, _, _, _, rfl, h2, .cons (.ty _) (.cons (.ty _) .nil), h1.tyx, ?_, q⟩
    refine kitAny_cons (kit_ty (kitB_D d t)) (fun e => ?_) (fun e => by rw [e]; rfl)
    rw [e, Bool.false_or]
    refine kitAny_cons (kit_ty (kitB_D d u)) (fun e => ?_) (fun e => e)
    rw [e]
    exact kitAny_nil
  · exact q.elim
theorem DVs.two {K : PySem.W.Frag} {H : Hp} {v : List V} {d : List PyData} (h : DVs K H v d) (n : v.length = 2) : ∃ x y a b, v = [x, y] ∧ d = [a, b] ∧ DV K H x a ∧ DV K H y b := by
  match v, d, h, n with
  | [x, y], [a, b], .cons h1 (.cons h2 .nil), _ => exact ⟨x, y, a, b, rfl, rfl, h1, h2⟩
end Tc

/-! set(list of ints), sorted(set), at any size below 4,000. -/
namespace Tc
open PySem PySem.Spec PyProof.Rows L2
section
variable {P : Program} {w : World} {A : Around} {E : Value → Shared → Prop} {s : Shared}
/-- the object of a fresh set -/
abbrev set0 (w : World) : Obj := { cls := .type "set", dict := none, data := .set #[] 0 (.fresh 0 0 (!w.params.followText "set-order")) }
/-- what set.__init__ leaves of the new set at z -/
def Filled (w : World) (z : Addr) (ms : List Int) (g g' : Heap) : Prop := ∃ c, c ≤ ms.length ∧ SetR w g' z (fun j => decide (j ∈ ms)) c ∧ ∀ b o, b ≠ z → g.get? b = some o → g'.get? b = some o
set_option maxHeartbeats 3200000 in
theorem set_fill {q z : Addr} {vals : Array Value} {ms : List Int} {R : Result → Shared → Prop} (nh : A.handled = none) (hz : s.heap.get? z = some (set0 w)) (hq : s.heap.IsList q vals) (iv : IntsAre vals.toList ms) (few : ms.length + 1 < scanBound)
    (done : ∀ (g' : Heap) (tk : Nat), Filled w z ms s.heap g' → R (.ok (.ret .none)) { s with heap := g', toks := tk }) :
    codeAny (model P w) A (.call (.builtin "set.__init__") ⟨[.ref z, .ref q], []⟩) R s := by
  have ty : s.TypeIs (.ref z) "set" := ⟨_, hz, rfl⟩
  refine codeAny_mono (codeAny_call_builtin (R := fun r t => r = .ok (.ret .none) ∧ ∃ g' tk, t = { s with heap := g', toks := tk } ∧ Filled w z ms s.heap g') (PySem.F.called_set.init.plain) PySem.F.entry_set_init (check_set_init_1 ty ?_)) fun r t ⟨e1, g', tk, e2, f⟩ => by
    subst e1; subst e2; exact done g' tk f
  have len : vals.size = ms.length := by simpa using IntsAre.length iv
  obtain ⟨⟨k1, k2, k3, k4⟩, hk, c1, m, c2⟩ := hq
  dsimp only at c1 c2
  subst c1; subst c2
  have il : s.heap.IsList q vals := ⟨_, hk, rfl, m, rfl⟩
  have n1 := PySem.F.sub_list_set
  have n2 := PySem.F.sub_list_frozenset
  have n3 : (Value.type "list" == Value.type "dict") = false := by decide
  unfold Builtin.«set.__init__» noKeywords Builtin.Frozenset.updateFrom
  generalize hit : pyIter = it
  wp_walk
  subst hit
  refine wpAny_pyIter_list il ?_
  refine wpAny_bind (wpAny_runValue ?_)
  have qlt : q < s.heap.objs.size := Heap.lt_size hk
  have zlt : z < s.heap.objs.size := Heap.lt_size hz
  have zq : z ≠ q := fun e => by
    rw [e, hk] at hz
    exact absurd (congrArg Obj.cls (Option.some.inj hz)) (show ¬ (Value.type "list" = Value.type "set") by decide)
  have nh3 : A.in1.in1.handled = none := by simp [nh]
  have vs : ∀ (i : Nat) (v : Value), vals[i]? = some v → ∃ k t, ms[i]? = some k ∧ v = .int k t := fun i v e => by
    have lt : i < ms.length := by rw [← len]; exact (Array.getElem?_eq_some_iff.mp e).1
    obtain ⟨t, e2⟩ := PyProof.Rows.IntsAre.int_at iv i v (by rw [Array.getElem?_toList]; exact e)
    exact ⟨ms[i], t, List.getElem?_eq_getElem lt, by rw [e2, List.getD_eq_getElem?_getD, List.getElem?_eq_getElem lt]; rfl⟩
  refine set_update_ints ((Walks.list nh3 _ q (Nat.ne_of_lt qlt) vals).toS) z (by simp only [List.mem_cons, List.not_mem_nil, or_false, not_or]; exact ⟨Nat.ne_of_lt zlt, zq⟩) ms len few vs _ 0 _ rfl (Nat.zero_le _)
    ⟨⟨_, Heap.get?_push_size _ rfl, rfl, rfl⟩, il.push _⟩ ⟨0, Nat.le_refl 0, setR_new_at (Heap.get?_push_of_some _ hz)⟩ ?_
  rintro ⟨g', ge, dr, tk, os⟩ c mv cle R'
  have e1 : ge = s.gens := mv.gens
  have e2 : dr = s.drawn := mv.drawn
  have e3 : os = s.os := mv.os
  subst e1; subst e2; subst e3
  show wpAny _ _ _ _ _ _
  refine wpAny_pure ?_
  show wpAny _ _ (ret Value.none) _ _ _
  refine wpAny_pure ⟨rfl, g', tk, rfl, c, by omega, R', fun b o nb e => mv.heap b o ?_ (Heap.get?_push_of_some _ e)⟩
  simp only [List.mem_cons, List.not_mem_nil, or_false, not_or]
  exact ⟨nb, Nat.ne_of_lt (Heap.lt_size e)⟩
set_option maxHeartbeats 3200000 in
theorem call_set_lst {q : Addr} {vals : Array Value} {ms : List Int} {Q : Value → Shared → Prop} (nh : A.handled = none) (hq : s.heap.IsList q vals) (iv : IntsAre vals.toList ms) (few : ms.length + 1 < scanBound)
    (done : ∀ (g' : Heap) (tk c : Nat), c ≤ ms.length → SetR w g' s.heap.objs.size (fun j => decide (j ∈ ms)) c → (∀ b o, s.heap.get? b = some o → g'.get? b = some o) → Q (.ref s.heap.objs.size) { s with heap := g', toks := tk }) :
    wpAny (model P w) A (call (.type "set") [.ref q]) Q E s := by
  obtain ⟨c, tl, m1⟩ := PySem.F.called_set.mro
  have m2 := PySem.F.called_set.made
  have m3 := PySem.F.called_set.sub
  have m4 := PySem.F.called_set.notType
  have m5 := PySem.F.called_set.canCreate
  have m6 := PySem.F.typeCall_set_1 (.ref q)
  refine wpAny_call (codeAny_of_tree ?_)
  show wpAny _ _ (callAny (.type "set") _) _ _ _
  refine wpAny_pure ⟨Code.quiet_builtin _ (by decide +kernel), codeAny_builtin PySem.F.entry_type_call ?_⟩
  rw [Around.under_plain (weight_type_call_type "set" [.ref q] []) rfl]
  repeat (any_goals (first | assumption | wp_step))
  refine codeAny_mono (code_set_led1 (.ref q) (E := E) (Q₁ := fun obj t => obj = .ref s.heap.objs.size ∧ t = { s with heap := s.heap.push (set0 w) }) ⟨rfl, rfl⟩) fun r t hr => ?_
  match r, hr with
  | .ok (.ret obj), hr =>
    obtain ⟨rfl, rfl⟩ := hr
    have hz : (s.heap.push (set0 w)).get? s.heap.objs.size = some (set0 w) := Heap.get?_push_size _ rfl
    have ty : Shared.TypeIs { s with heap := s.heap.push (set0 w) } (.ref s.heap.objs.size) "set" := ⟨_, hz, rfl⟩
    have b1 := PySem.F.called_set.init.lookup
    have b2 := PySem.F.called_set.init.bind (.ref s.heap.objs.size)
    repeat (any_goals (first | assumption | wp_step))
    refine codeAny_mono (set_fill (s := { s with heap := s.heap.push (set0 w) }) (R := wants (fun r t => r = .none ∧ ∃ g' tk, t = { s with heap := g', toks := tk } ∧ Filled w s.heap.objs.size ms (s.heap.push (set0 w)) g') E)
      (by simp [nh]) hz (hq.push _) iv few fun g' tk f => ⟨rfl, g', tk, rfl, f⟩) fun r t hr => ?_
    match r, hr with
    | .ok (.ret v), hr =>
      obtain ⟨rfl, g', tk, rfl, c', cle, R', k⟩ := hr
      repeat (any_goals (first | assumption | wp_step))
      exact done g' tk c' cle R' fun b o e => k b o (Nat.ne_of_lt (Heap.lt_size e)) (Heap.get?_push_of_some _ e)
    | .error e, hr => exact hr
    | .ok .next, hr => exact hr.elim
    | .ok .brk, hr => exact hr.elim
    | .ok .cont, hr => exact hr.elim
  | .error e, hr => exact hr
  | .ok .next, hr => exact hr.elim
  | .ok .brk, hr => exact hr.elim
  | .ok .cont, hr => exact hr.elim
/-- sorted(a set), of any size -/
theorem sorted_setW {a : Addr} {S : Int → Bool} {n : Nat} {Q : Value → Shared → Prop} (R : SetR w s.heap a S n) (nh : A.handled = none)
    (done : ∀ t p (out : Array Value) (c : Nat) (ks : List Int), (∀ b o, s.heap.get? b = some o → t.heap.get? b = some o) → t.gens = s.gens → t.os = s.os → s.heap.objs.size ≤ p →
      t.heap.get? p = some (seqObj "list" out c) → IntsAre out.toList ks → ks.Pairwise (· < ·) → (∀ k, k ∈ ks ↔ S k = true) → ks.length = n ∧ ks.length ≤ scanBound → Q (.ref p) t) :
    wpAny (model P w) A (call (.builtin "sorted") [.ref a]) Q E s := by
  obtain ⟨o, es, ep, t, ho, hx, hd, g, nd, hm, hb, hf, hn, hr, hl⟩ := R
  refine Calls.call_function_entry kind_sorted plain_sorted entry_sorted (args_sorted1 _) ?_
  unfold Builtin.«sorted»
  refine wpAny_bind (m := checkCount "sorted" 1 1 _) (wpAny_pure ?_)
  refine wpAny_bind (collect_set (A := A.in1) nh ⟨o, ho, hx.1, hd⟩ hf hb hr hl fun s1 vs k1 hz g1 o1 pm => ?_)
  have size : es.size < scanBound := hb
  have vlen : vs.length = es.size := by rw [pm.length_eq, List.length_map, Array.length_toList]
  have line : vs.length ≤ sizeLine := by rw [vlen, sizeLine_eq]; unfold scanBound at size; omega
  have iv : IntsAre vs (vs.map Builtin.Re.reRawOf) := ints_of vs fun v hv => by
    obtain ⟨e, he, q⟩ := List.mem_map.mp (pm.mem_iff.mp hv)
    obtain ⟨k, tk, h1, _⟩ := g e he
    exact ⟨k, tk, q.symm.trans h1⟩
  have pk : (vs.map Builtin.Re.reRawOf).Perm (es.toList.map keyOf) := by
    have q := pm.map Builtin.Re.reRawOf
    rw [List.map_map] at q
    exact q
  refine wpAny_bind (wpAny_newList ?_ line)
  have ho1 : (s1.heap.push (seqObj "list" vs.toArray 0)).get? s1.heap.objs.size = some (seqObj "list" vs.toArray 0) := Heap.get?_push_size _ rfl
  refine wpAny_bind (wpAny_holding (wpAny_call_entry slot_list_sort ⟨_, ho1, rfl⟩ entry_list_sort (SrtO.list_sort_ord SrtO.swo_int ho1 line (fun h2 => SrtO.ints_sortable iv h2) fun out h1 h2 => ⟨_, rfl, ?_⟩) (args_list_sort _)))
  obtain ⟨a1, a2, a3⟩ := SrtO.ints_out iv h1 h2
  obtain ⟨c, hc⟩ := sortedHeap_at (vs := vs) (out := out.toArray) ho1
  have pn := a2.trans pk
  refine wpAny_pure ⟨_, rfl, done _ s1.heap.objs.size out.toArray c (out.map SrtO.iv) (fun b u e => ?_) g1 o1 hz hc a1 (lt_of_le_nodup _ a3 (pn.nodup_iff.mpr nd)) (fun k => by rw [pn.mem_iff, ← hm k]) ?_⟩
  · have q := k1 b u e
    have lt := Heap.lt_size q
    show (sortedHeap (s1.heap.push (seqObj "list" vs.toArray 0)) s1.heap.objs.size vs out.toArray).get? b = some u
    rw [sortedHeap_old (Nat.ne_of_lt lt) (by rw [size_push']; exact Nat.lt_succ_of_lt lt)]
    exact Heap.get?_push_of_some _ q
  · rw [pn.length_eq, List.length_map, Array.length_toList]
    exact ⟨hn, Nat.le_of_lt size⟩
end
section
variable {X : Cx}
/-- set(a list of ints) -/
def rSetG (K : PySem.W.Frag) (w : World) : List V → Hp → VK → Prop := fun xs H Q => ∃ (l : Addr) (ms : List Int), xs = [.ref l] ∧ SqL K H l (ms.map V.int) ∧ ms.length ≤ 4000 ∧ ∀ p c, c ≤ ms.length → H p = none → Q (.ref p) (upd H p (SetO w p (fun j => decide (j ∈ ms)) c))
theorem call_setG (hc : X.calm = true) : CallR X (.type "set") (rSetG X.K X.w) := by
  intro pins s σ H xs us Q I r h
  obtain ⟨l, ms, rfl, hl, few, q⟩ := h
  rw [Vals.ref1 r]
  obtain ⟨its, rv, pl, hz⟩ := I.list hl
  have n := I.hok.fresh (Nat.le_refl _)
  exact call_set_lst (I.ok.hd hc) pl.isList rv.ints (by unfold scanBound; omega) fun g' tk c cle R k =>
    ⟨.ref s.heap.objs.size, upd H s.heap.objs.size (SetO X.w s.heap.objs.size (fun j => decide (j ∈ ms)) c), I.laid (t' := tk) k (Nat.le_refl _) (setO_new R), rfl, q _ c cle n⟩
/-- sorted(a set of ints) -/
def rSortSet (w : World) : List V → Hp → VK → Prop := fun vs H Q => ∃ (a : Addr) (S : Int → Bool) (n : Nat), vs = [V.ref a] ∧ H a = some (SetO w a S n) ∧
  ∀ (ks : List Int) (p : Addr), ks.Pairwise (· < ·) → (∀ k : Int, k ∈ ks ↔ S k = true) → ks.length = n → H p = none → Q (.ref p) (upd H p (.lst (ks.map V.int)))
theorem call_sortSet (hc : X.calm = true) : CallR X (.builtin "sorted") (rSortSet X.w) := by
  intro pins s σ H vs us Q I r h
  obtain ⟨a, S, n, rfl, ha, q⟩ := h
  have R := setO_get I ha
  rw [Vals.ref1 r]
  refine sorted_setW R (I.ok.hd hc) fun s' p out c ks k g o hp hg hi hs hm hl => ?_
  have line : (ks.map V.int).length ≤ sizeLine := by rw [List.length_map, sizeLine_eq]; have hl := hl.2; unfold scanBound at hl; omega
  have n := I.hok.fresh hp
  have J : Inv X pins σ (upd H p (.lst (ks.map V.int))) { s with heap := s'.heap, gens := s'.gens, drawn := s'.drawn, toks := s'.toks } :=
    I.call (ch := []) (Un.laid k hp n) (I.hok.laid k hp ⟨line, out.toList, c, vals_of_ints hi, hg⟩) (by rw [g]; exact I.bare) (fun _ z => nomatch z)
  have e : s' = { s with heap := s'.heap, gens := s'.gens, drawn := s'.drawn, toks := s'.toks } := by
    cases s'; cases s; cases o; rfl
  rw [e]
  exact ⟨.ref p, _, J, rfl, q ks p hs hm hl.1 n⟩
/-- sorted: of a list of ints, of a set of ints -/
theorem call_or {f : Value} {r u : List V → Hp → VK → Prop} (h : CallR X f r) (h' : CallR X f u) : CallR X f (fun xs H Q => r xs H Q ∨ u xs H Q) := fun pins s σ H xs us Q I rs q =>
  q.elim (h pins s σ H xs us Q I rs) (h' pins s σ H xs us Q I rs)
theorem call_sortedG (hc : X.calm = true) : CallR X (.builtin "sorted") (fun xs H Q => rSortedI X.K xs H Q ∨ rSortSet X.w xs H Q) := call_or cr_sortedI (call_sortSet hc)
end
end Tc

namespace Tc
open PySem PySem.Spec PyProof.Rows L2
/-! ### the built-ins' names -/
theorem boot_len : bootBuiltins "len" = some (.builtin "len") := by decide +kernel
theorem boot_abs : bootBuiltins "abs" = some (.builtin "abs") := by decide +kernel
theorem boot_min : bootBuiltins "min" = some (.builtin "min") := by decide +kernel
theorem boot_max : bootBuiltins "max" = some (.builtin "max") := by decide +kernel
theorem boot_all : bootBuiltins "all" = some (.builtin "all") := by decide +kernel
theorem boot_any : bootBuiltins "any" = some (.builtin "any") := by decide +kernel
theorem boot_sorted : bootBuiltins "sorted" = some (.builtin "sorted") := by decide +kernel
theorem boot_isinstance : bootBuiltins "isinstance" = some (.builtin "isinstance") := by decide +kernel
theorem boot_int : bootBuiltins "int" = some (.type "int") := by decide +kernel
theorem boot_bool : bootBuiltins "bool" = some (.type "bool") := by decide +kernel
theorem boot_str : bootBuiltins "str" = some (.type "str") := by decide +kernel
theorem boot_tuple : bootBuiltins "tuple" = some (.type "tuple") := by decide +kernel
theorem boot_list : bootBuiltins "list" = some (.type "list") := by decide +kernel
theorem boot_dict : bootBuiltins "dict" = some (.type "dict") := by decide +kernel
theorem boot_set : bootBuiltins "set" = some (.type "set") := by decide +kernel
section
variable {X : Cx}
/-! ### slices -/
/-- x[lo:hi] of a text, a list, a tuple (the whole of a tuple is the tuple itself) -/
def rSlG (K : PySem.W.Frag) : V → Option Int → Option Int → Hp → VK → Prop := fun x lo hi H Q => match x with
  | .str z => z.length ≤ sizeLine ∧ Q (.str (cutS z lo hi)) H
  | .ref p => (∃ xs, SqL K H p xs ∧ ∀ q, H q = none → Q (.ref q) (upd H q (.lst (cutV xs lo hi)))) ∨
      ∃ xs, SqT K H p xs ∧ (cutV xs lo hi = xs → Q (.ref p) H) ∧ ∀ q, H q = none → Q (.ref q) (upd H q (.tup (cutV xs lo hi)))
  | _ => False
theorem cut_whole {xs : List V} {lo hi : Option Int} (h : HT.sIx xs.length 0 lo = 0 ∧ HT.sIx xs.length xs.length hi = xs.length) : cutV xs lo hi = xs := by
  unfold cutV
  rw [h.1, h.2]
  simp
theorem sl_G : SlR X (rSlG X.K) := by
  intro pins s σ H x v vl vu lo hi sl Q I rx hs pl pu q
  unfold rSlG at q
  split at q
  · exact sl_str pins s σ H _ v vl vu lo hi sl Q I rx hs pl pu ⟨_, rfl, q⟩
  · rcases q with ⟨xs, h, q⟩ | ⟨xs, h, q1, q2⟩
    · exact sl_list pins s σ H _ v vl vu lo hi sl Q I rx hs pl pu ⟨_, xs, rfl, h, q⟩
    · exact sl_tupA pins s σ H _ v vl vu lo hi sl Q I rx hs pl pu ⟨_, xs, rfl, h, fun w => q1 (cut_whole w), fun _ => q2⟩
  · exact q.elim
/-! ### calls -/
def rAbsG : List V → Hp → VK → Prop := fun xs H Q => match xs with
  | [.int i] => Q (.int (if i < 0 then -i else i)) H
  | _ => False
theorem call_absG : CallR X (.builtin "abs") rAbsG := call_of call_abs fun xs H Q q => by
  unfold rAbsG at q
  split at q
  · exact ⟨_, rfl, q⟩
  · exact q.elim
def rMinG : List V → Hp → VK → Prop := fun xs H Q => match xs with
  | [.int i, .int j] => Q (.int (if j < i then j else i)) H
  | _ => False
theorem call_min2G (hc : X.calm = true) : CallR X (.builtin "min") rMinG := call_of (call_min2 hc) fun xs H Q q => by
  unfold rMinG at q
  split at q
  · exact ⟨_, _, rfl, q⟩
  · exact q.elim
def rMaxG : List V → Hp → VK → Prop := fun xs H Q => match xs with
  | [.int i, .int j] => Q (.int (if j > i then j else i)) H
  | _ => False
theorem call_max2G (hc : X.calm = true) : CallR X (.builtin "max") rMaxG := call_of (call_max2 hc) fun xs H Q q => by
  unfold rMaxG at q
  split at q
  · exact ⟨_, _, rfl, q⟩
  · exact q.elim
def rIntG : List V → Hp → VK → Prop := fun xs H Q => match xs with
  | [.int i] => Q (.int i) H
  | [.bl k] => Q (.int (if k then 1 else 0)) H
  | _ => False
theorem call_intG : CallR X (.type "int") rIntG := call_of call_int1 fun xs H Q q => by
  unfold rIntG at q
  split at q
  · exact .inl ⟨_, rfl, q⟩
  · exact .inr ⟨_, rfl, q⟩
  · exact q.elim
def rStrG : List V → Hp → VK → Prop := fun xs H Q => match xs with
  | [.int i] => i.natAbs.log2 < 1920 ∧ Q (.str (toString i)) H
  | [.bl i] => Q (.str (if i then "True" else "False")) H
  | _ => False
theorem call_strG : CallR X (.type "str") rStrG := fun pins s σ H xs us Q I rs q => by
  unfold rStrG at q
  split at q
  · exact call_str_int pins s σ H _ us Q I rs ⟨_, rfl, q⟩
  · obtain ⟨u, rfl, ru⟩ := vals1 rs
    cases ru
    exact P.str_of_bool ⟨.str _, H, I.tok _, ⟨_, rfl⟩, q⟩
  · exact q.elim
/-- tuple(a list or tuple), list(a list or tuple) -/
def rTupleG (K : PySem.W.Frag) : List V → Hp → VK → Prop := fun xs H Q => match xs with
  | [.ref p] => (∃ ys, SqL K H p ys ∧ ∀ l, H l = none → Q (.ref l) (upd H l (.tup ys))) ∨ ∃ ys, SqT K H p ys ∧ Q (.ref p) H
  | _ => False
theorem call_tupleG : CallR X (.type "tuple") (rTupleG X.K) := call_of call_tuple_of fun xs H Q q => by
  unfold rTupleG at q
  split at q
  · rcases q with ⟨ys, h, q⟩ | ⟨ys, h, q⟩
    · exact ⟨_, ys, rfl, .inl ⟨h, q⟩⟩
    · exact ⟨_, ys, rfl, .inr ⟨h, q⟩⟩
  · exact q.elim
def rListG (K : PySem.W.Frag) : List V → Hp → VK → Prop := fun xs H Q => match xs with
  | [.ref p] => ∃ ys, Sq K H p ys ∧ ∀ l, H l = none → Q (.ref l) (upd H l (.lst ys))
  | _ => False
theorem call_listG : CallR X (.type "list") (rListG X.K) := call_of call_list_of fun xs H Q q => by
  unfold rListG at q
  split at q
  · obtain ⟨ys, h, q⟩ := q
    exact ⟨_, ys, rfl, h, q⟩
  · exact q.elim
/-! ### what is walked -/
theorem pi_or {tg it : Expr} {a b : TI} (h : PI X tg it a) (h' : PI X tg it b) : PI X tg it (fun σ H R => a σ H R ∨ b σ H R) :=
  ⟨fun pins s σ H R I q => q.elim (h.run pins s σ H R I) (h'.run pins s σ H R I)⟩
end
end Tc

namespace Tc
open PySem PySem.Spec PyProof.Rows L2
section
variable {X : Cx} {tg l : Expr} {tl : TE}
/-- G speaks of the object at a alone -/
def At (H1 : Hp) (a : Addr) (G : Hp → Prop) : Prop := ∀ H, (∀ o, H1 a = some o → H a = some o) → G H
/-- for x in a list or a tuple -/
def kSq (K : PySem.W.Frag) (R : It → Hp → Prop) : VK := fun x H1 => match x with
  | .ref a => ∃ xs, Sq K H1 a xs ∧ ∀ J G, Walk J xs.length G (YAt xs) → At H1 a G → R J H1
  | _ => False
def iSqG (K : PySem.W.Frag) (tl : TE) : TI := fun σ H R => tl σ H (kSq K R)
theorem rd_at {H H' : Hp} {a : Addr} {u : HO} (k : ∀ o, H a = some o → H' a = some o) (h : Rd H a u) : Rd H' a u := by
  rcases h with h | ⟨o, h⟩
  · exact .inl (k _ h)
  · exact .inr ⟨o, k _ h⟩
theorem sqL_at {K : PySem.W.Frag} {H H' : Hp} {a : Addr} {xs : List V} (k : ∀ o, H a = some o → H' a = some o) (h : SqL K H a xs) : SqL K H' a xs := h.elim (fun h => .inl (rd_at k h)) .inr
theorem sqT_at {K : PySem.W.Frag} {H H' : Hp} {a : Addr} {xs : List V} (k : ∀ o, H a = some o → H' a = some o) (h : SqT K H a xs) : SqT K H' a xs := h.elim (fun h => .inl (rd_at k h)) .inr
theorem pi_G (hl : PE X l tl) : PI X tg l (iSqG X.K tl) := by
  refine ⟨fun pins s σ H R I h => ?_⟩
  refine thn (hl.run pins s σ H _ I h) fun v s1 ⟨x, H1, I1, r1, q1⟩ => ?_
  cases x with
  | ref a =>
    obtain ⟨xs, hq | hq, q⟩ := q1
    · cases r1
      obtain ⟨its, rv, p, hz⟩ := I1.list hq
      refine wpAny_pyIter_list p.isList ?_
      refine ⟨s1.heap.objs.size, [s1.heap.objs.size], _, _, H1, rfl, I1.kept (t' := s1.toks) fun b o e => Heap.get?_push_of_some _ e, turn_list a _, ⟨_, Heap.get?_push_size _ rfl, rfl, rfl⟩, fun b hb => ?_, q _ _ walk_list fun H k => sqL_at k hq⟩
      have e : b = s1.heap.objs.size := by simpa using hb
      subst e
      exact I1.fpOk (Nat.le_refl _) (I1.hok.fresh (Nat.le_refl _))
    · cases r1
      obtain ⟨its, rv, p, hz⟩ := I1.tuple hq
      refine wpAny_pyIter_tuple (show s1.heap.IsTuple a its.toArray from p) ?_
      refine ⟨s1.heap.objs.size, [s1.heap.objs.size], _, _, H1, rfl, I1.kept (t' := s1.toks) fun b o e => Heap.get?_push_of_some _ e, turn_tuple a _, ⟨_, Heap.get?_push_size _ rfl, rfl, rfl⟩, fun b hb => ?_, q _ _ walk_tup fun H k => sqT_at k hq⟩
      have e : b = s1.heap.objs.size := by simpa using hb
      subst e
      exact I1.fpOk (Nat.le_refl _) (I1.hok.fresh (Nat.le_refl _))
  | _ => exact (show False from q1).elim
/-- the answer of a comprehension whose element is a function of the item (z: the item, and what is known of it), over a list or tuple; one name at slot i -/
theorem lc_map {α : Type} {K : PySem.W.Frag} {H1 : Hp} {a : Addr} (zs : List (V × α)) {te : TE} {vs : List Nat} {σ : L2.St} {Q : Addr → Hp → Prop} {i : Nat} (f : V × α → V) (hs : Sq K H1 a (zs.map (·.1))) (few : zs.length < sizeLine)
    (hw : ∀ x, wipe ((wipe σ vs).set i (some x)) vs = wipe σ vs)
    (he : ∀ (z : V × α) (H : Hp), z ∈ zs → Same H1 H → ∀ Qe : VK, Qe (f z) H → te ((wipe σ vs).set i (some z.1)) H Qe)
    (q : ∀ D, H1 D = none → Q D (upd H1 D (.lst (zs.map f)))) :
    ∃ ys, Sq K H1 a ys ∧ ∀ J G, Walk J ys.length G (YAt ys) → At H1 a G → ∀ D, H1 D = none → ∃ W : Nat → Nat → Hp → Prop, (∃ m, W 0 m (upd H1 D (.lst []))) ∧ ∀ i' m H, W i' m H →
      (J.stop i' H ∧ Q D H) ∨ (J.go i' H ∧ ∃ Nx : Hp → Prop, (∀ H', Nx H' → ∃ m', m' < m ∧ W (i' + 1) m' H') ∧ ∀ x H', J.yld i' H x H' → gName i x (wipe σ vs) H' fun σ2 H2 => wipe σ2 vs = wipe σ vs ∧ tYes σ2 H2 fun b H3 =>
        if b = true then te σ2 H3 fun y H4 => ∃ acc, H4 D = some (.lst acc) ∧ acc.length < sizeLine ∧ Nx (upd H4 D (.lst (acc ++ [y]))) else Nx H3) := by
  refine ⟨_, hs, fun J G w hG D hD => ?_⟩
  rw [List.length_map] at w
  refine lc_it w (fun k H => H = upd H1 D (.lst ((zs.take k).map f))) (by simp) (fun k H hk e => hG H fun o ho => ?_) (fun k x H H' hk e y => ?_) (fun H e => ?_)
  · rw [e]; exact same_upd hD _ _ ho
  · obtain ⟨rfl, hx⟩ := y
    subst e
    rw [List.getElem?_map, List.getElem?_eq_getElem hk] at hx
    obtain rfl := Option.some.inj hx
    refine ⟨hw _, ?_⟩
    show te _ _ _
    refine he zs[k] _ (List.getElem_mem hk) (same_upd hD) _ ⟨_, upd_same, ?_, ?_⟩
    · rw [List.length_map, List.length_take]; omega
    · rw [upd_upd, List.take_add_one, List.getElem?_eq_getElem hk, List.map_append]; rfl
  · rw [e, List.take_length]; exact q D hD
/-- .. with a test of the item -/
theorem lc_filter {α : Type} {K : PySem.W.Frag} {H1 : Hp} {a : Addr} (zs : List (V × α)) {tt : TT} {te : TE} {vs : List Nat} {σ : L2.St} {Q : Addr → Hp → Prop} {i : Nat} (p : V × α → Bool) (f : V × α → V) (hs : Sq K H1 a (zs.map (·.1))) (few : zs.length < sizeLine)
    (hw : ∀ x, wipe ((wipe σ vs).set i (some x)) vs = wipe σ vs)
    (ht : ∀ (z : V × α) (H : Hp), z ∈ zs → Same H1 H → ∀ Qe : Bool → Hp → Prop, Qe (p z) H → tt ((wipe σ vs).set i (some z.1)) H Qe)
    (he : ∀ (z : V × α) (H : Hp), z ∈ zs → Same H1 H → p z = true → ∀ Qe : VK, Qe (f z) H → te ((wipe σ vs).set i (some z.1)) H Qe)
    (q : ∀ D, H1 D = none → Q D (upd H1 D (.lst ((zs.filter p).map f)))) :
    ∃ ys, Sq K H1 a ys ∧ ∀ J G, Walk J ys.length G (YAt ys) → At H1 a G → ∀ D, H1 D = none → ∃ W : Nat → Nat → Hp → Prop, (∃ m, W 0 m (upd H1 D (.lst []))) ∧ ∀ i' m H, W i' m H →
      (J.stop i' H ∧ Q D H) ∨ (J.go i' H ∧ ∃ Nx : Hp → Prop, (∀ H', Nx H' → ∃ m', m' < m ∧ W (i' + 1) m' H') ∧ ∀ x H', J.yld i' H x H' → gName i x (wipe σ vs) H' fun σ2 H2 => wipe σ2 vs = wipe σ vs ∧ tt σ2 H2 fun b H3 =>
        if b = true then te σ2 H3 fun y H4 => ∃ acc, H4 D = some (.lst acc) ∧ acc.length < sizeLine ∧ Nx (upd H4 D (.lst (acc ++ [y]))) else Nx H3) := by
  refine ⟨_, hs, fun J G w hG D hD => ?_⟩
  rw [List.length_map] at w
  refine lc_it w (fun k H => H = upd H1 D (.lst (((zs.take k).filter p).map f))) (by simp) (fun k H hk e => hG H fun o ho => ?_) (fun k x H H' hk e y => ?_) (fun H e => ?_)
  · rw [e]; exact same_upd hD _ _ ho
  · obtain ⟨rfl, hx⟩ := y
    subst e
    rw [List.getElem?_map, List.getElem?_eq_getElem hk] at hx
    obtain rfl := Option.some.inj hx
    refine ⟨hw _, ht zs[k] _ (List.getElem_mem hk) (same_upd hD) _ ?_⟩
    have et : (zs.take (k + 1)).filter p = (zs.take k).filter p ++ ([zs[k]].filter p) := by
      rw [List.take_add_one, List.getElem?_eq_getElem hk, List.filter_append]; rfl
    show if p zs[k] = true then _ else _
    cases hp : p zs[k] with
    | true =>
      show te _ _ _
      refine he zs[k] _ (List.getElem_mem hk) (same_upd hD) hp _ ⟨_, upd_same, ?_, ?_⟩
      · rw [List.length_map]
        have := List.length_filter_le p (zs.take k)
        rw [List.length_take] at this
        omega
      · rw [upd_upd, et, List.map_append, List.filter_cons_of_pos hp]; rfl
    | false =>
      show _ = _
      rw [et, List.filter_cons_of_neg (by rw [hp]; exact Bool.false_ne_true)]
      simp
  · rw [e, List.take_length]; exact q D hD
/-- two tuples side by side -/
theorem walk_two {K : PySem.W.Frag} {a b : Addr} {xs ys : List V} {n : Nat} (hn : n = min xs.length ys.length) : Walk (RZ.ItzT K a b) n (fun H => SqT K H a xs ∧ SqT K H b ys) (YPair (fun i => xs[i]?) (fun i => ys[i]?)) := by
  refine ⟨fun i _ hi q => ⟨xs, ys, xs[i]'(by omega), ys[i]'(by omega), q.1, q.2, List.getElem?_eq_getElem _, List.getElem?_eq_getElem _⟩, fun _ q => ⟨xs, ys, q.1, q.2, by omega⟩, fun i H v H' _ q y => ?_⟩
  obtain ⟨t, x, z, e1, e2, e3, e4, e5⟩ := y
  exact ⟨t, x, z, e1, e2, e3, e4 xs q.1, e5 ys q.2⟩
/-- a comprehension over two tuples side by side -/
theorem lc_two {K : PySem.W.Frag} {H1 : Hp} {a b : Addr} {xs ys : List V} {te : TE} {vs : List Nat} {σ : L2.St} {Q : Addr → Hp → Prop} {i j n : Nat} (f : Nat → V) (hn : n = min xs.length ys.length) (hx : SqT K H1 a xs) (hy : SqT K H1 b ys) (few : n < sizeLine)
    (hw : ∀ x y, wipe (((wipe σ vs).set i (some x)).set j (some y)) vs = wipe σ vs)
    (he : ∀ (k : Nat) (x y : V) (H : Hp), xs[k]? = some x → ys[k]? = some y → Same H1 H → ∀ Qe : VK, Qe (f k) H → te (((wipe σ vs).set i (some x)).set j (some y)) H Qe)
    (q : ∀ D H', H1 D = none → Same H1 H' → H' D = some (.lst ((List.range n).map f)) → Q D H') :
    ∀ D, H1 D = none → ∃ W : Nat → Nat → Hp → Prop, (∃ m, W 0 m (upd H1 D (.lst []))) ∧ ∀ i' m H, W i' m H →
      ((RZ.ItzT K a b).stop i' H ∧ Q D H) ∨ ((RZ.ItzT K a b).go i' H ∧ ∃ Nx : Hp → Prop, (∀ H', Nx H' → ∃ m', m' < m ∧ W (i' + 1) m' H') ∧ ∀ x H', (RZ.ItzT K a b).yld i' H x H' → gTup K 2 (gCons (gName i) (gCons (gName j) gNil)) x (wipe σ vs) H' fun σ2 H2 => wipe σ2 vs = wipe σ vs ∧ tYes σ2 H2 fun b H3 =>
        if b = true then te σ2 H3 fun y H4 => ∃ acc, H4 D = some (.lst acc) ∧ acc.length < sizeLine ∧ Nx (upd H4 D (.lst (acc ++ [y]))) else Nx H3) := by
  intro D hD
  refine lc_it (walk_two (K := K) (a := a) (b := b) hn) (fun k H => Same H1 H ∧ H D = some (.lst ((List.range k).map f))) ⟨same_upd hD, upd_same⟩ (fun k H hk e => ⟨same_tup e.1 hx, same_tup e.1 hy⟩) (fun k x H H' hk e y => ?_) (fun H e => q D H hD e.1 e.2)
  obtain ⟨t, u, v, rfl, ht, rfl, e1, e2⟩ := y
  have nt : D ≠ t := ne_of_none e.2 ht
  refine ⟨t, [u, v], rfl, .inl (.inl upd_same), rfl, u, [v], rfl, v, [], rfl, rfl, ?_⟩
  refine ⟨hw _ _, ?_⟩
  show te _ _ _
  have sm : Same H1 (upd H t (.tup [u, v])) := e.1.trans (same_upd ht)
  refine he k u v _ e1 e2 sm _ ⟨(List.range k).map f, by rw [upd_ne nt]; exact e.2, by rw [List.length_map, List.length_range]; omega, fun b o hb => ?_, ?_⟩
  · have nb : b ≠ D := fun z => by rw [z, hD] at hb; cases hb
    rw [upd_ne nb]
    exact sm b o hb
  · rw [upd_same, List.range_succ, List.map_append]; rfl
end
section
/-- a comprehension over a list or tuple, by an invariant (by the turn, the new list's place, the heap) -/
theorem lc_sq {K : PySem.W.Frag} {H1 : Hp} {a : Addr} {g : TG} {tt : TT} {te : TE} {vs : List Nat} {σ : L2.St} {Q : Addr → Hp → Prop} (xs : List V) (hs : Sq K H1 a xs) (Pv : Nat → Addr → Hp → Prop) (h0 : ∀ D, H1 D = none → Pv 0 D (upd H1 D (.lst [])))
    (hk : ∀ k D H, H1 D = none → Pv k D H → ∀ o, H1 a = some o → H a = some o)
    (step : ∀ (k : Nat) (x : V) (D : Addr) (H : Hp), k < xs.length → xs[k]? = some x → H1 D = none → Pv k D H → g x (wipe σ vs) H fun σ2 H2 => wipe σ2 vs = wipe σ vs ∧ tt σ2 H2 fun b H3 =>
      if b = true then te σ2 H3 fun y H4 => ∃ acc, H4 D = some (.lst acc) ∧ acc.length < sizeLine ∧ Pv (k + 1) D (upd H4 D (.lst (acc ++ [y]))) else Pv (k + 1) D H3)
    (q : ∀ D H, H1 D = none → Pv xs.length D H → Q D H) :
    ∃ ys, Sq K H1 a ys ∧ ∀ J G, Walk J ys.length G (YAt ys) → At H1 a G → ∀ D, H1 D = none → ∃ W : Nat → Nat → Hp → Prop, (∃ m, W 0 m (upd H1 D (.lst []))) ∧ ∀ i' m H, W i' m H →
      (J.stop i' H ∧ Q D H) ∨ (J.go i' H ∧ ∃ Nx : Hp → Prop, (∀ H', Nx H' → ∃ m', m' < m ∧ W (i' + 1) m' H') ∧ ∀ x H', J.yld i' H x H' → g x (wipe σ vs) H' fun σ2 H2 => wipe σ2 vs = wipe σ vs ∧ tt σ2 H2 fun b H3 =>
        if b = true then te σ2 H3 fun y H4 => ∃ acc, H4 D = some (.lst acc) ∧ acc.length < sizeLine ∧ Nx (upd H4 D (.lst (acc ++ [y]))) else Nx H3) := by
  refine ⟨xs, hs, fun J G w hG D hD => ?_⟩
  refine lc_it w (fun k H => Pv k D H) (h0 D hD) (fun k H _ e => hG H (hk k D H hD e)) (fun k x H H' lt e y => ?_) (fun H e => q D H hD e)
  obtain ⟨rfl, hx⟩ := y
  exact step k x D _ lt hx hD e
/-- .. over range(n) -/
theorem lc_rng {H1 : Hp} {g : TG} {tt : TT} {te : TE} {vs : List Nat} {σ : L2.St} {Q : Addr → Hp → Prop} {lo : Int} {n : Nat} (Pv : Nat → Addr → Hp → Prop) (h0 : ∀ D, H1 D = none → Pv 0 D (upd H1 D (.lst [])))
    (step : ∀ (k : Nat) (D : Addr) (H : Hp), k < n → H1 D = none → Pv k D H → g (.int (lo + k)) (wipe σ vs) H fun σ2 H2 => wipe σ2 vs = wipe σ vs ∧ tt σ2 H2 fun b H3 =>
      if b = true then te σ2 H3 fun y H4 => ∃ acc, H4 D = some (.lst acc) ∧ acc.length < sizeLine ∧ Pv (k + 1) D (upd H4 D (.lst (acc ++ [y]))) else Pv (k + 1) D H3)
    (q : ∀ D H, H1 D = none → Pv n D H → Q D H) :
    ∀ D, H1 D = none → ∃ W : Nat → Nat → Hp → Prop, (∃ m, W 0 m (upd H1 D (.lst []))) ∧ ∀ i' m H, W i' m H →
      ((Itr lo n).stop i' H ∧ Q D H) ∨ ((Itr lo n).go i' H ∧ ∃ Nx : Hp → Prop, (∀ H', Nx H' → ∃ m', m' < m ∧ W (i' + 1) m' H') ∧ ∀ x H', (Itr lo n).yld i' H x H' → g x (wipe σ vs) H' fun σ2 H2 => wipe σ2 vs = wipe σ vs ∧ tt σ2 H2 fun b H3 =>
        if b = true then te σ2 H3 fun y H4 => ∃ acc, H4 D = some (.lst acc) ∧ acc.length < sizeLine ∧ Nx (upd H4 D (.lst (acc ++ [y]))) else Nx H3) := by
  intro D hD
  refine lc_it walk_range (fun k H => Pv k D H) (h0 D hD) (fun _ _ _ _ => trivial) (fun k x H H' lt e y => ?_) (fun H e => q D H hD e)
  obtain ⟨rfl, rfl⟩ := y
  exact step k D _ lt hD e
/-- a for over a list or tuple, by an invariant -/
theorem for_sq {K : PySem.W.Frag} {H1 : Hp} {a : Addr} {g : TG} {tb : TS} {D : Ends} {σ : L2.St} (xs : List V) (hs : Sq K H1 a xs) (Pv : Nat → L2.St → Hp → Prop) (h0 : Pv 0 σ H1) (hk : ∀ k σ H, Pv k σ H → ∀ o, H1 a = some o → H a = some o)
    (step : ∀ (k : Nat) (x : V) (σ : L2.St) (H : Hp), k < xs.length → xs[k]? = some x → Pv k σ H → g x σ H fun σ2 H2 => tb { D with nx := Pv (k + 1), ct := Pv (k + 1), bk := D.nx } σ2 H2) (q : ∀ σ H, Pv xs.length σ H → D.nx σ H) :
    ∃ ys, Sq K H1 a ys ∧ ∀ J G, Walk J ys.length G (YAt ys) → At H1 a G → ∃ W : Nat → Nat → L2.St → Hp → Prop, (∃ m, W 0 m σ H1) ∧ ∀ i m σ H, W i m σ H →
      (J.stop i H ∧ D.nx σ H) ∨ (J.go i H ∧ ∃ N : L2.St → Hp → Prop, (∀ σ' H', N σ' H' → ∃ m', m' < m ∧ W (i + 1) m' σ' H') ∧ ∀ x H', J.yld i H x H' → g x σ H' fun σ2 H2 => tb { D with nx := N, ct := N, bk := D.nx } σ2 H2) := by
  refine ⟨xs, hs, fun J G w hG => ?_⟩
  refine for_it w Pv h0 (fun k σ H _ e => hG H (hk k σ H e)) (fun k x σ H H' lt e y => ?_) q
  obtain ⟨rfl, hx⟩ := y
  exact step k x σ _ lt hx e
end
section
/-! ### the same rules, the written part named (for what stands within a comprehension) -/
variable {X : Cx} {K : PySem.W.Frag}
theorem ixK (h : X.K = K := by rfl) : IxR X (rIxG K) := h ▸ ix_G
theorem lenK (h : X.K = K := by rfl) : CallR X (.builtin "len") (rLenG K) := h ▸ call_lenG
theorem isiK (h : X.K = K := by rfl) : CallR X (.builtin "isinstance") (rIsiD K) := h ▸ call_isiD
theorem addK (h : X.K = K := by rfl) : OpR X (binaryOp .Add) (rAddG K) := h ▸ op_addG
theorem eqK (hu : X.A.units + 64 < cLine) (h : X.K = K := by rfl) : OpR X (compareOp .Eq) (rEqG K) := h ▸ op_eqG hu
theorem neK (hu : X.A.units + 64 < cLine) (h : X.K = K := by rfl) : OpR X (compareOp .NotEq) (rNeG K) := h ▸ op_neG hu
theorem slK (h : X.K = K := by rfl) : SlR X (rSlG K) := h ▸ sl_G
theorem tupleK (h : X.K = K := by rfl) : CallR X (.type "tuple") (rTupleG K) := h ▸ call_tupleG
theorem listK (h : X.K = K := by rfl) : CallR X (.type "list") (rListG K) := h ▸ call_listG
theorem allK (hc : X.calm = true := by rfl) (h : X.K = K := by rfl) : CallR X (.builtin "all") (rAll K) := h ▸ cr_all hc
theorem anyK (hc : X.calm = true := by rfl) (h : X.K = K := by rfl) : CallR X (.builtin "any") (rAny K) := h ▸ cr_any hc
theorem setK {w : World} (hc : X.calm = true := by rfl) (h : X.K = K := by rfl) (h2 : X.w = w := by rfl) : CallR X (.type "set") (rSetG K w) := h ▸ h2 ▸ call_setG hc
theorem sortedK {w : World} (hc : X.calm = true := by rfl) (h : X.K = K := by rfl) (h2 : X.w = w := by rfl) : CallR X (.builtin "sorted") (fun xs H Q => rSortedI K xs H Q ∨ rSortSet w xs H Q) := h ▸ h2 ▸ call_sortedG hc
theorem truK {a : Expr} {ta : TE} (ha : PE X a ta) (he : ∀ whole, isTrue a X.env whole = (do let v ← whole; standAt a.pos; holding [v] (truthy v)) := by intro _; rfl) (h : X.K = K := by rfl) : PT X a (tTruG K ta) := h ▸ pt_tru ha he
theorem piK {tg l : Expr} {tl : TE} (hl : PE X l tl) (h : X.K = K := by rfl) : PI X tg l (iSqG K tl) := h ▸ pi_G hl
theorem zipK {e e2 : Expr} {ta : TA} {p pos tpos : Pos} {elts : List Expr} {kk : Nat} (hg : Gl X "zip") (hm : X.mg "zip" = none) (ha : PA X [e, e2] ta)
    (hs : starEach [e, e2] X.env = (false, eval e X.env) :: starEach [e2] X.env := by rfl) (hpl : (backTo pos (starEach [e2] X.env)).any (·.1) = false := by rfl) (h : X.K = K := by rfl) :
    PI X (.Tuple elts kk tpos) (.Call (.Name "zip" p) [e, e2] [] pos) (RZ.iZipA K ta) := h ▸ RZ.pi_zipA hg hm ha hs hpl
theorem enumK {e : Expr} {ta : TA} {p pos tpos : Pos} {elts : List Expr} {kk : Nat} (hg : Gl X "enumerate") (hm : X.mg "enumerate" = none) (ha : PA X [e] ta) (hs : starEach [e] X.env = [(false, eval e X.env)] := by rfl) (h : X.K = K := by rfl) :
    PI X (.Tuple elts kk tpos) (.Call (.Name "enumerate" p) [e] [] pos) (iEnum K ta) := h ▸ pi_enum hg hm ha hs
theorem tupTK {es : List Expr} {k : Nat} {t : TGs} {pos : Pos} {n : Nat} (hc : X.calm = true) (ht : PGs X es t) (hn : (assignEach es X.env).length = n := by rfl) (hst : (assignEach es X.env).findIdx? (·.1) = none := by rfl) (h : X.K = K := by rfl) : PG X (.Tuple es k pos) (gTup K n t) :=
  h ▸ pg_tup hc ht hn hst
theorem fldK {e : Expr} {ta : TE} {f : Str} {pos : Pos} (he : PE X e ta) (hb : attributeBase e f X.env (eval e X.env) = eval e X.env := by rfl) (h : X.K = K := by rfl) : PE X (.Attribute e f pos) (tFld K ta f) := h ▸ pe_fld he hb
def kPart (Q : Option Int → Hp → Prop) : VK := fun x H1 => match x with
  | .int i => Q (some i) H1
  | _ => False
theorem po_G {e : Expr} {te : TE} (h : PE X e te) : PO X (some e) (fun σ H Q => te σ H (kPart Q)) := by
  refine ⟨fun pins s σ H Q I hw => ?_⟩
  rw [evalPart_some]
  refine thn (h.run pins s σ H _ I hw) fun u s1 ⟨x, H1, I1, r1, q1⟩ => ?_
  cases x with
  | int i =>
    obtain ⟨t, rfl⟩ := r1
    exact ⟨some i, H1, I1, .int i t, q1⟩
  | _ => exact (show False from q1).elim
end
end Tc

/-! What the laws' and the program's small defs promise: data told, draws. -/
namespace Tc
open PySem PySem.Spec PyProof.Rows L2
/-! ### the draws' state -/
def Bag (H : Hp) (b : Addr) : Prop := ∃ x y : Int, H b = some (.lst [.int x, .int y]) ∧ 0 ≤ y ∧ y < 4294967296
/-- all but b stays, new things may have come; b is a draws' state -/
def Gr (b : Addr) (H H' : Hp) : Prop := Bag H' b ∧ ∀ a o, a ≠ b → H a = some o → H' a = some o
theorem Gr.refl {b : Addr} {H : Hp} (h : Bag H b) : Gr b H H := ⟨h, fun _ _ _ e => e⟩
theorem Gr.trans {b : Addr} {H H1 H2 : Hp} (x : Gr b H H1) (y : Gr b H1 H2) : Gr b H H2 := ⟨y.1, fun a o n e => y.2 a o n (x.2 a o n e)⟩
/-- the heap without b -/
def off (b : Addr) (H : Hp) : Hp := fun a => if a = b then none else H a
theorem off_ne {b a : Addr} {H : Hp} (h : a ≠ b) : off b H a = H a := if_neg h
theorem off_same {b : Addr} {H : Hp} : Same (off b H) H := fun a o e => by
  unfold off at e
  split at e
  · cases e
  · exact e
theorem off_some {b a : Addr} {H : Hp} {o : HO} (e : off b H a = some o) : a ≠ b ∧ H a = some o := by
  unfold off at e
  split at e
  · cases e
  · exact ⟨by assumption, e⟩
theorem off_mk {b a : Addr} {H : Hp} {o : HO} (n : a ≠ b) (e : H a = some o) : off b H a = some o := (off_ne n).trans e
theorem Gr.same {b : Addr} {H H' : Hp} (g : Gr b H H') : Same (off b H) (off b H') := fun a o e => by
  obtain ⟨n, e⟩ := off_some e
  exact off_mk n (g.2 a o n e)
theorem Bag.new {b p : Addr} {H : Hp} {o : HO} (h : Bag H b) (hp : H p = none) : Bag (upd H p o) b := by
  obtain ⟨x, y, e, r⟩ := h
  exact ⟨x, y, by rw [upd_ne (ne_of_none e hp)]; exact e, r⟩
theorem Bag.ne {b p : Addr} {H : Hp} (h : Bag H b) (hp : H p = none) : p ≠ b := by
  obtain ⟨x, y, e, r⟩ := h
  exact (ne_of_none e hp).symm
theorem Gr.new {b p : Addr} {H : Hp} {o : HO} (h : Bag H b) (hp : H p = none) : Gr b H (upd H p o) := ⟨h.new hp, fun a u n e => by rw [upd_ne (ne_of_none e hp)]; exact e⟩
theorem Gr.free {b p : Addr} {H H' : Hp} (g : Gr b H H') (h : Bag H b) (hp : H' p = none) : H p = none := by
  cases e : H p with
  | none => rfl
  | some o =>
    have n : p ≠ b := fun z => by
      subst z
      obtain ⟨x, y, e2, _⟩ := g.1
      rw [hp] at e2; cases e2
    rw [g.2 p o n e] at hp; cases hp
/-- a change of an object that was not there in H0 -/
theorem Gr.put {b p : Addr} {H0 H : Hp} {o : HO} (g : Gr b H0 H) (n : p ≠ b) (hp : H0 p = none) : Gr b H0 (upd H p o) := by
  refine ⟨?_, fun a u na e => ?_⟩
  · obtain ⟨x, y, e, r⟩ := g.1
    exact ⟨x, y, by rw [upd_ne n.symm]; exact e, r⟩
  · have np : a ≠ p := fun z => by rw [z, hp] at e; cases e
    rw [upd_ne np]
    exact g.2 a u na e
/-- a datum that stands apart from b -/
abbrev Dat (K : PySem.W.Frag) (b : Addr) (H : Hp) (v : V) (d : PyData) : Prop := DV K (off b H) v d
abbrev Dats (K : PySem.W.Frag) (b : Addr) (H : Hp) (v : List V) (d : List PyData) : Prop := DVs K (off b H) v d
theorem Dat.dv {K : PySem.W.Frag} {b : Addr} {H : Hp} {v : V} {d : PyData} (h : Dat K b H v d) : DV K H v d := DV.same off_same h
theorem Dats.dv {K : PySem.W.Frag} {b : Addr} {H : Hp} {v : List V} {d : List PyData} (h : Dats K b H v d) : DVs K H v d := DVs.same off_same h
theorem Dat.gr {K : PySem.W.Frag} {b : Addr} {H H' : Hp} {v : V} {d : PyData} (h : Dat K b H v d) (g : Gr b H H') : Dat K b H' v d := DV.same g.same h
theorem Dats.gr {K : PySem.W.Frag} {b : Addr} {H H' : Hp} {v : List V} {d : List PyData} (h : Dats K b H v d) (g : Gr b H H') : Dats K b H' v d := DVs.same g.same h
/-- _law_take(bag, many) -/
def spTake : Sp := fun vs H Q _ => ∃ (b : Addr) (m : Int), vs = [.ref b, .int m] ∧ Bag H b ∧ 0 < m ∧ m < 2 ^ 200 ∧ ∀ r H', 0 ≤ r → r < m → Gr b H H' → Q (.int r) H'
/-- _law_bag(script, k) -/
def spBag (K : PySem.W.Frag) : Sp := fun vs H Q _ => ∃ (a : Addr) (ns : List Int) (k : Int), vs = [.ref a, .int k] ∧ SqL K H a (ns.map V.int) ∧ 0 ≤ k ∧ k < 1000 ∧ ∀ b x y, H b = none → 0 ≤ y → y < 4294967296 → Q (.ref b) (upd H b (.lst [.int x, .int y]))
/-! ### the kinds of data -/
def wholeD : PyData → Bool
  | .int _ => true
  | _ => false
def withinD (d : PyData) (lo hi : Int) : Bool := match d with
  | .int i => decide (lo ≤ i) && decide (i ≤ hi)
  | _ => false
def okPair : PyData → Bool
  | .tuple [x, y] => withinD x 0 999 && withinD y 0 999
  | _ => false
/-- the first part of a pair -/
def keyD : PyData → Int
  | .tuple (.int i :: _) => i
  | _ => 0
def risesD : List Int → Bool
  | x :: y :: r => decide (x < y) && risesD (y :: r)
  | _ => true
def pairsD : PyData → Bool
  | .tuple ds => ds.all okPair && risesD (ds.map keyD)
  | _ => false
def lenD : PyData → Nat
  | .tuple ds => ds.length
  | .list ds => ds.length
  | .str s => s.length
  | _ => 0
def lenT : PyData → Nat
  | .tuple ds => ds.length
  | _ => 0
def tableD (d : PyData) : Bool := pairsD d && decide (lenD d ≤ 100)
/-- a look at a datum -/
def spLook (K : PySem.W.Frag) (C : PyData → Prop) (f : PyData → Bool) : Sp := fun vs H Q _ => ∃ v d, vs = [v] ∧ DV K H v d ∧ C d ∧ ∀ H', Same H H' → Q (.bl (f d)) H'
/-- .. that makes nothing -/
def spLook0 (K : PySem.W.Frag) (f : PyData → Bool) : Sp := fun vs H Q _ => ∃ v d, vs = [v] ∧ DV K H v d ∧ Q (.bl (f d)) H
def spWithin (K : PySem.W.Frag) : Sp := fun vs H Q _ => ∃ v d lo hi, vs = [v, .int lo, .int hi] ∧ DV K H v d ∧ Q (.bl (withinD d lo hi)) H
theorem isD_int (d : PyData) : (isD d .int && !isD d .bool) = wholeD d := by cases d <;> rfl
theorem wholeD_int {d : PyData} (h : wholeD d = true) : ∃ i, d = .int i := by
  cases d with
  | int i => exact ⟨i, rfl⟩
  | _ => cases h
theorem wholeD_not {d : PyData} (h : wholeD d = false) (lo hi : Int) : withinD d lo hi = false := by
  cases d with
  | int i => cases h
  | _ => rfl
theorem okPair_two {ds : List PyData} (h : ds.length ≠ 2) : okPair (.tuple ds) = false := by
  match ds, h with
  | [], _ => rfl
  | [_], _ => rfl
  | [_, _], h => exact absurd rfl h
  | _ :: _ :: _ :: _, _ => rfl
theorem withinD_int {d : PyData} {lo hi : Int} (h : withinD d lo hi = true) : ∃ i, d = .int i ∧ lo ≤ i ∧ i ≤ hi := by
  cases d with
  | int i =>
    have h : (decide (lo ≤ i) && decide (i ≤ hi)) = true := h
    rw [Bool.and_eq_true, decide_eq_true_eq, decide_eq_true_eq] at h
    exact ⟨i, rfl, h.1, h.2⟩
  | _ => cases h
theorem okPair_of {d : PyData} (h : okPair d = true) : ∃ k w : Int, d = .tuple [.int k, .int w] ∧ 0 ≤ k ∧ k ≤ 999 ∧ 0 ≤ w ∧ w ≤ 999 := by
  match d, h with
  | .tuple [x, y], h =>
    have h : (withinD x 0 999 && withinD y 0 999) = true := h
    rw [Bool.and_eq_true] at h
    obtain ⟨k, rfl, h1, h2⟩ := withinD_int h.1
    obtain ⟨w, rfl, h3, h4⟩ := withinD_int h.2
    exact ⟨k, w, rfl, h1, h2, h3, h4⟩
  | .tuple [], h => cases h
  | .tuple [_], h => cases h
  | .tuple (_ :: _ :: _ :: _), h => cases h
  | .none, h => cases h
  | .bool _, h => cases h
  | .int _, h => cases h
  | .str _, h => cases h
  | .list _, h => cases h
  | .dict _, h => cases h
/-- the items beside what they are -/
theorem DVs.zip1 {K : PySem.W.Frag} {H : Hp} : ∀ {v : List V} {d : List PyData}, DVs K H v d → (v.zip d).map (·.1) = v
  | _, _, .nil => rfl
  | _, _, .cons _ t => congrArg (_ :: ·) (DVs.zip1 t)
theorem DVs.zip2 {K : PySem.W.Frag} {H : Hp} : ∀ {v : List V} {d : List PyData}, DVs K H v d → (v.zip d).map (·.2) = d
  | _, _, .nil => rfl
  | _, _, .cons _ t => congrArg (_ :: ·) (DVs.zip2 t)
theorem DVs.zipd {K : PySem.W.Frag} {H : Hp} : ∀ {v : List V} {d : List PyData}, DVs K H v d → ∀ z ∈ v.zip d, DV K H z.1 z.2
  | _, _, .nil, z, h => by cases h
  | _, _, .cons h t, z, q => by
    rcases List.mem_cons.mp q with rfl | q
    · exact h
    · exact DVs.zipd t z q
theorem DVs.zipl {K : PySem.W.Frag} {H : Hp} {v : List V} {d : List PyData} (h : DVs K H v d) : (v.zip d).length = d.length := by
  rw [← List.length_map (f := (·.2)), h.zip2]
theorem DVs.zipf {β : Type} {K : PySem.W.Frag} {H : Hp} (f : PyData → β) : ∀ {v : List V} {d : List PyData}, DVs K H v d → (v.zip d).map (fun z => f z.2) = d.map f
  | _, _, .nil => rfl
  | _, _, .cons _ t => congrArg (_ :: ·) (DVs.zipf f t)
theorem DVs.zipp {K : PySem.W.Frag} {H : Hp} (p : PyData → Bool) : ∀ {v : List V} {d : List PyData}, DVs K H v d → ((v.zip d).filter fun z => p z.2).map (fun z => z.2) = d.filter p
  | _, _, .nil => rfl
  | x :: v, y :: d, .cons _ t => by
    have ih := DVs.zipp p t
    rw [List.zip_cons_cons, List.filter_cons, List.filter_cons]
    cases e : p y <;> simp [ih]
theorem DV.ints2 {K : PySem.W.Frag} {H : Hp} {v : V} {k w : Int} (h : DV K H v (.tuple [.int k, .int w])) : ∃ p, v = .ref p ∧ SqT K H p [.int k, .int w] := by
  cases h with
  | tup hs ha =>
    cases ha with
    | cons h1 h2 =>
      cases h1
      cases h2 with
      | cons h1 h2 =>
        cases h1
        cases h2
        exact ⟨_, rfl, hs⟩
/-- the part of an item by its place -/
def keyAt (ds : List PyData) (k : Nat) : Int := keyD (ds.getD k .none)
theorem rises_at : ∀ (ds : List PyData), (List.range (ds.length - 1)).all (fun k => decide (keyAt ds k < keyAt ds (k + 1))) = risesD (ds.map keyD)
  | [] => rfl
  | [_] => rfl
  | x :: y :: r => by
    have ih := rises_at (y :: r)
    have e : (x :: y :: r).length - 1 = ((y :: r).length - 1) + 1 := by simp
    rw [e, List.range_succ_eq_map, List.all_cons, List.all_map]
    show (decide (keyD x < keyD y) && _) = (decide (keyD x < keyD y) && risesD ((y :: r).map keyD))
    rw [← ih]
    rfl
theorem cut1 (xs : List V) : cutV xs (some 1) none = xs.drop 1 := by
  unfold cutV
  rw [show HT.sIx xs.length 0 (some 1) = min 1 xs.length from HT.sIx_nat xs.length 0 1, HT.sIx_none]
  cases xs with
  | nil => rfl
  | cons x r =>
    rw [show min 1 (x :: r).length = 1 by rw [List.length_cons]; omega]
    show (List.take ((x :: r).length - 1) r) = r
    rw [List.length_cons, Nat.add_sub_cancel]
    exact List.take_length
theorem line_lt {n : Nat} (h : n ≤ 100000) : n < sizeLine := by rw [sizeLine_eq]; omega
theorem line_le {n : Nat} (h : n ≤ 100000) : n ≤ sizeLine := by rw [sizeLine_eq]; omega
theorem DVs.of_zip {K : PySem.W.Frag} {H : Hp} : ∀ {zs : List (V × PyData)}, (∀ z ∈ zs, DV K H z.1 z.2) → DVs K H (zs.map (·.1)) (zs.map (·.2))
  | [], _ => .nil
  | z :: zs, h => .cons (h z List.mem_cons_self) (DVs.of_zip fun y hy => h y (List.mem_cons_of_mem _ hy))
theorem rises_iff : ∀ l : List Int, risesD l = true ↔ l.Pairwise (· < ·)
  | [] => by simp [risesD]
  | [x] => by simp [risesD]
  | x :: y :: r => by
    have ih := rises_iff (y :: r)
    show (decide (x < y) && risesD (y :: r)) = true ↔ _
    rw [Bool.and_eq_true, decide_eq_true_eq, ih, List.pairwise_cons (a := x)]
    constructor
    · rintro ⟨h, p⟩
      refine ⟨fun z hz => ?_, p⟩
      rcases List.mem_cons.mp hz with rfl | hz
      · exact h
      · have := (List.pairwise_cons.mp p).1 z hz
        omega
    · rintro ⟨h, p⟩
      exact ⟨h y List.mem_cons_self, p⟩
theorem rising_one : ∀ {a b : List Int}, a.Pairwise (· < ·) → b.Pairwise (· < ·) → (∀ k, k ∈ a ↔ k ∈ b) → a = b
  | [], [], _, _, _ => rfl
  | [], y :: b, _, _, h => absurd ((h y).mpr List.mem_cons_self) (by simp)
  | x :: a, [], _, _, h => absurd ((h x).mp List.mem_cons_self) (by simp)
  | x :: a, y :: b, pa, pb, h => by
    obtain ⟨a1, a2⟩ := List.pairwise_cons.mp pa
    obtain ⟨b1, b2⟩ := List.pairwise_cons.mp pb
    have e : x = y := by
      rcases List.mem_cons.mp ((h x).mp List.mem_cons_self) with e | e
      · exact e
      · rcases List.mem_cons.mp ((h y).mpr List.mem_cons_self) with e2 | e2
        · exact e2.symm
        · have := b1 x e
          have := a1 y e2
          omega
    subst e
    have t := rising_one a2 b2 fun k => by
      constructor
      · intro hk
        rcases List.mem_cons.mp ((h k).mp (List.mem_cons_of_mem _ hk)) with e | e
        · have := a1 k hk
          omega
        · exact e
      · intro hk
        rcases List.mem_cons.mp ((h k).mpr (List.mem_cons_of_mem _ hk)) with e | e
        · have := b1 k hk
          omega
        · exact e
    rw [t]
theorem eqv_ints : ∀ a b : List Int, PyData.eqvAll (a.map PyData.int) (b.map PyData.int) = decide (a = b)
  | [], [] => rfl
  | [], y :: b => rfl
  | x :: a, [] => rfl
  | x :: a, y :: b => by
    have ih := eqv_ints a b
    show ((x == y) && PyData.eqvAll (a.map PyData.int) (b.map PyData.int)) = _
    rw [ih]
    by_cases e : x = y <;> by_cases t : a = b <;> simp [e, t]
theorem depth_ints : ∀ a : List Int, PyData.depthAll (a.map PyData.int) = 0
  | [] => rfl
  | x :: a => by
    have ih := depth_ints a
    simp only [List.map_cons, PyData.depthAll, ih, PyData.depth, Nat.max_self]
theorem dps_ints {K : PySem.W.Frag} {H : Hp} : ∀ a : List Int, DpAll K H (a.map V.int) (a.map PyData.int)
  | [] => .nil
  | x :: a => .cons (.int x) (dps_ints a)
/-- the keys in order, none twice: just where they rise -/
theorem rises_sorted {a b : List Int} (hb : b.Pairwise (· < ·)) (h : ∀ k, k ∈ b ↔ k ∈ a) : decide (a = b) = risesD a := by
  by_cases e : risesD a = true
  · rw [e]
    exact decide_eq_true (rising_one ((rises_iff a).mp e) hb fun k => (h k).symm)
  · rw [Bool.eq_false_iff.mpr e]
    refine decide_eq_false fun z => e ((rises_iff a).mpr ?_)
    rw [z]
    exact hb
theorem eqv_none (l : List PyData) : PyData.eqv (.list l) (.list []) = l.isEmpty := by cases l <;> rfl
theorem all_filter {α : Type} (f : α → Bool) : ∀ l : List α, (l.filter fun z => !f z).isEmpty = l.all f
  | [] => rfl
  | x :: l => by
    rw [List.all_cons, ← all_filter f l, List.filter_cons]
    cases f x <;> simp
theorem pickV (xs : List V) {r : Int} (h0 : 0 ≤ r) (h1 : r < (xs.length : Int)) : ∃ v, xs[r.toNat]? = some v ∧ atI xs r = some v := by
  have hk : r.toNat < xs.length := by omega
  refine ⟨xs[r.toNat], List.getElem?_eq_getElem hk, ?_⟩
  have e2 := atI_nat (List.getElem?_eq_getElem hk)
  rw [show ((r.toNat : Nat) : Int) = r by omega] at e2
  exact e2
theorem pickI (ms : List Int) {r : Int} (h0 : 0 ≤ r) (h1 : r < (ms.length : Int)) : ∃ m, m ∈ ms ∧ atI (ms.map V.int) r = some (.int m) := by
  obtain ⟨v, h, e⟩ := pickV (ms.map V.int) h0 (by rw [List.length_map]; exact h1)
  rw [List.getElem?_map] at h
  cases q : ms[r.toNat]? with
  | none => rw [q] at h; cases h
  | some m =>
    rw [q] at h
    cases h
    exact ⟨m, List.mem_of_getElem? q, e⟩
/-- a list of ints at p, apart from b -/
def IntsAt (b : Addr) (H : Hp) (p : Addr) (ks : List Int) : Prop := off b H p = some (.lst (ks.map V.int))
theorem IntsAt.gr {b p : Addr} {H H' : Hp} {ks : List Int} (h : IntsAt b H p ks) (g : Gr b H H') : IntsAt b H' p ks := g.same _ _ h
theorem IntsAt.at {b p : Addr} {H : Hp} {ks : List Int} (h : IntsAt b H p ks) : H p = some (.lst (ks.map V.int)) := (off_some h).2
/-- keys that rise -/
def Keys (ks : List Int) : Prop := ks.Pairwise (· < ·) ∧ (∀ k ∈ ks, 0 ≤ k ∧ k ≤ 999) ∧ ks.length ≤ 12 ∧ 0 < ks.length
/-- _law_keys(bag) -/
def spKeys : Sp := fun vs H Q _ => ∃ (b : Addr), vs = [.ref b] ∧ Bag H b ∧ ∀ p ks H', Keys ks → Gr b H H' → H p = none → IntsAt b H' p ks → Q (.ref p) H'
/-! ### data without lists: they stay whatever is done to lists -/
mutual
def noL : PyData → Bool
  | .list _ => false
  | .tuple xs => noLs xs
  | _ => true
def noLs : List PyData → Bool
  | [] => true
  | x :: xs => noL x && noLs xs
end
def TSame (H H' : Hp) : Prop := ∀ a xs, Rd H a (.tup xs) → Rd H' a (.tup xs)
theorem TSame.refl (H : Hp) : TSame H H := fun _ _ h => h
theorem TSame.trans {H H1 H2 : Hp} (x : TSame H H1) (y : TSame H1 H2) : TSame H H2 := fun a xs h => y a xs (x a xs h)
theorem TSame.of {H H' : Hp} (s : Same H H') : TSame H H' := fun a xs h => h.elim (fun h => .inl (s _ _ h)) fun ⟨o, h⟩ => .inr ⟨o, s _ _ h⟩
theorem TSame.but {H H' : Hp} {b : Addr} {o : HO} (hb : H b = some o) (n1 : ∀ xs, o ≠ .tup xs) (n2 : ∀ ob xs, o ≠ .frz ob (.tup xs)) (k : ∀ a u, a ≠ b → H a = some u → H' a = some u) : TSame H H' := fun a xs h => by
  rcases h with h | ⟨ob, h⟩
  · exact .inl (k a _ (ne_of h hb (fun z => n1 xs z.symm)) h)
  · exact .inr ⟨ob, k a _ (ne_of h hb (fun z => n2 ob xs z.symm)) h⟩
theorem TSame.lst {H : Hp} {p : Addr} {xs : List V} {o : HO} (h : H p = some (.lst xs)) : TSame H (upd H p o) := TSame.but h (fun _ z => by cases z) (fun _ _ z => by cases z) fun a u n e => by rw [upd_ne n]; exact e
theorem Gr.ts {b : Addr} {H H' : Hp} (g : Gr b H H') (h : Bag H b) : TSame H H' := by
  obtain ⟨x, y, e, _⟩ := h
  exact TSame.but e (fun _ z => by cases z) (fun _ _ z => by cases z) g.2
theorem Bag.off {b : Addr} {H : Hp} (h : Bag H b) : TSame H (off b H) := by
  obtain ⟨x, y, e, _⟩ := h
  exact TSame.but e (fun _ z => by cases z) (fun _ _ z => by cases z) fun a u n e => off_mk n e
theorem sqT_ts {K : PySem.W.Frag} {H H' : Hp} {a : Addr} {xs : List V} (t : TSame H H') (h : SqT K H a xs) : SqT K H' a xs := h.elim (fun h => .inl (t _ _ h)) .inr
mutual
theorem DV.ts {K : PySem.W.Frag} {H H' : Hp} (t : TSame H H') : ∀ {v : V} {d : PyData}, DV K H v d → noL d = true → DV K H' v d
  | _, _, .non, _ => .non
  | _, _, .bl b, _ => .bl b
  | _, _, .int i, _ => .int i
  | _, _, .str x, _ => .str x
  | _, _, .lst h q, e => by cases e
  | _, _, .tup h q, e => .tup (sqT_ts t h) (DVs.ts t q e)
theorem DVs.ts {K : PySem.W.Frag} {H H' : Hp} (t : TSame H H') : ∀ {v : List V} {d : List PyData}, DVs K H v d → noLs d = true → DVs K H' v d
  | _, _, .nil, _ => .nil
  | _, _, .cons (d := d) (ds := ds) h q, e => by
    have e : (noL d && noLs ds) = true := e
    rw [Bool.and_eq_true] at e
    exact .cons (DV.ts t h e.1) (DVs.ts t q e.2)
end
theorem noLs_all : ∀ ds : List PyData, noLs ds = ds.all noL
  | [] => rfl
  | d :: ds => by rw [List.all_cons, ← noLs_all ds]; rfl
theorem noLs_map {α : Type} (f : α → PyData) (h : ∀ x, noL (f x) = true) (l : List α) : noLs (l.map f) = true := by
  rw [noLs_all, List.all_map]
  exact List.all_eq_true.mpr fun x _ => h x
/-- a table's rows as a datum -/
def rowD (r : Int × Int) : PyData := .tuple [.int r.1, .int r.2]
def tabD (rows : List (Int × Int)) : PyData := .tuple (rows.map rowD)
/-- rows of a table, their keys among ks -/
def RowsIn (ks : List Int) (rows : List (Int × Int)) : Prop := (rows.map (·.1)).Sublist ks ∧ ∀ r ∈ rows, 0 ≤ r.2 ∧ r.2 ≤ 999
/-- _law_table(bag, keys) -/
def spTable (K : PySem.W.Frag) : Sp := fun vs H Q _ => ∃ (b p : Addr) (ks : List Int), vs = [.ref b, .ref p] ∧ Bag H b ∧ IntsAt b H p ks ∧ ks.length ≤ 1000 ∧ ∀ v rows H', RowsIn ks rows → Gr b H H' → DV K H' v (tabD rows) → Q v H'
theorem noL_row (r : Int × Int) : noL (rowD r) = true := rfl
theorem noL_tab (rows : List (Int × Int)) : noL (tabD rows) = true := noLs_map rowD noL_row rows
theorem dv_row {K : PySem.W.Frag} {p : Addr} {H : Hp} {x y : Int} (h : H p = some (.tup [.int x, .int y])) : DV K H (.ref p) (rowD (x, y)) := .tup (.inl (.inl h)) (.cons (.int x) (.cons (.int y) .nil))
theorem DVs.snoc {K : PySem.W.Frag} {H : Hp} {vs : List V} {ds : List PyData} {v : V} {d : PyData} (h : DVs K H vs ds) (h2 : DV K H v d) : DVs K H (vs ++ [v]) (ds ++ [d]) := DVs.append h (.cons h2 .nil)
end Tc

/-! Things of any kind, spoilt: bounds. -/
namespace Tc
open PySem PySem.Spec PyProof.Rows L2
def leafB (n : Nat) : PyData → Prop
  | .none => True
  | .bool _ => True
  | .int i => i.natAbs ≤ 10 ^ 40 + 2000 * n
  | .str s => s.length ≤ 2000 * 3 ^ n
  | _ => False
/-- n times spoilt, at most k deep -/
def Bd (n : Nat) : Nat → PyData → Prop
  | k + 1, .list xs => xs.length ≤ 120 + n ∧ ∀ x ∈ xs, Bd n k x
  | k + 1, .tuple xs => xs.length ≤ 120 + n ∧ ∀ x ∈ xs, Bd n k x
  | _, d => leafB n d
theorem leafB.up {n : Nat} : ∀ {d : PyData}, leafB n d → leafB (n + 1) d
  | .none, _ => trivial
  | .bool _, _ => trivial
  | .int i, h => by
    have h : i.natAbs ≤ 10 ^ 40 + 2000 * n := h
    show i.natAbs ≤ 10 ^ 40 + 2000 * (n + 1)
    omega
  | .str s, h => by
    have h : s.length ≤ 2000 * 3 ^ n := h
    show s.length ≤ 2000 * 3 ^ (n + 1)
    rw [Nat.pow_succ]
    omega
  | .list _, h => h.elim
  | .tuple _, h => h.elim
  | .dict _, h => h.elim
theorem Bd.leaf {n k : Nat} {d : PyData} (h : leafB n d) : Bd n k d := by
  cases k with
  | zero => cases d <;> first | exact h | exact h.elim
  | succ k => cases d <;> first | exact h | exact h.elim
theorem Bd.list {n k : Nat} {xs : List PyData} (h1 : xs.length ≤ 120 + n) (h2 : ∀ x ∈ xs, Bd n k x) : Bd n (k + 1) (.list xs) := ⟨h1, h2⟩
theorem Bd.tuple {n k : Nat} {xs : List PyData} (h1 : xs.length ≤ 120 + n) (h2 : ∀ x ∈ xs, Bd n k x) : Bd n (k + 1) (.tuple xs) := ⟨h1, h2⟩
theorem Bd.unlist {n k : Nat} {xs : List PyData} (h : Bd n k (.list xs)) : ∃ j, k = j + 1 ∧ xs.length ≤ 120 + n ∧ ∀ x ∈ xs, Bd n j x := by
  cases k with
  | zero => exact h.elim
  | succ k => exact ⟨k, rfl, h⟩
theorem Bd.untuple {n k : Nat} {xs : List PyData} (h : Bd n k (.tuple xs)) : ∃ j, k = j + 1 ∧ xs.length ≤ 120 + n ∧ ∀ x ∈ xs, Bd n j x := by
  cases k with
  | zero => exact h.elim
  | succ k => exact ⟨k, rfl, h⟩
theorem Bd.deep : ∀ {k n : Nat} {d : PyData}, Bd n k d → Bd n (k + 1) d
  | 0, n, d, h => by
    cases d <;> first | exact h | exact h.elim
  | k + 1, n, d, h => by
    cases d with
    | list xs => exact ⟨h.1, fun x hx => Bd.deep (h.2 x hx)⟩
    | tuple xs => exact ⟨h.1, fun x hx => Bd.deep (h.2 x hx)⟩
    | _ => exact h
theorem Bd.deeper {n k : Nat} {d : PyData} (h : Bd n k d) : ∀ {j : Nat}, k ≤ j → Bd n j d := by
  intro j hj
  obtain ⟨m, rfl⟩ := Nat.le.dest hj
  clear hj
  induction m with
  | zero => exact h
  | succ m ih => exact ih.deep
theorem Bd.up : ∀ {k n : Nat} {d : PyData}, Bd n k d → Bd (n + 1) k d
  | 0, n, d, h => by
    cases d <;> first | exact leafB.up h | exact h.elim
  | k + 1, n, d, h => by
    cases d with
    | list xs => exact ⟨Nat.le_succ_of_le h.1, fun x hx => Bd.up (h.2 x hx)⟩
    | tuple xs => exact ⟨Nat.le_succ_of_le h.1, fun x hx => Bd.up (h.2 x hx)⟩
    | _ => exact leafB.up (show leafB n _ from h)
theorem Bd.int {n k : Nat} {i : Int} (h : i.natAbs ≤ 10 ^ 40 + 2000 * n) : Bd n k (.int i) := Bd.leaf h
theorem Bd.str {n k : Nat} {s : Str} (h : s.length ≤ 2000 * 3 ^ n) : Bd n k (.str s) := Bd.leaf h
/-- the same, to be reckoned -/
def bdB (n : Nat) : Nat → PyData → Bool
  | k + 1, .list xs => decide (xs.length ≤ 120 + n) && xs.all (bdB n k)
  | k + 1, .tuple xs => decide (xs.length ≤ 120 + n) && xs.all (bdB n k)
  | _, .none => true
  | _, .bool _ => true
  | _, .int i => decide (i.natAbs ≤ 10 ^ 40 + 2000 * n)
  | _, .str s => decide (s.length ≤ 2000 * 3 ^ n)
  | _, _ => false
theorem bdB_ok : ∀ {k n : Nat} {d : PyData}, bdB n k d = true → Bd n k d
  | 0, n, d, h => by
    cases d with
    | int i => exact Bd.int (of_decide_eq_true (by simpa [bdB] using h))
    | str i => exact Bd.str (of_decide_eq_true (by simpa [bdB] using h))
    | none => exact Bd.leaf trivial
    | bool _ => exact Bd.leaf trivial
    | _ => simp [bdB] at h
  | k + 1, n, d, h => by
    cases d with
    | int i => exact Bd.int (of_decide_eq_true (by simpa [bdB] using h))
    | str i => exact Bd.str (of_decide_eq_true (by simpa [bdB] using h))
    | none => exact Bd.leaf trivial
    | bool _ => exact Bd.leaf trivial
    | list xs =>
      have h : (decide (xs.length ≤ 120 + n) && xs.all (bdB n k)) = true := h
      rw [Bool.and_eq_true, decide_eq_true_eq] at h
      exact Bd.list h.1 fun x hx => bdB_ok (List.all_eq_true.mp h.2 x hx)
    | tuple xs =>
      have h : (decide (xs.length ≤ 120 + n) && xs.all (bdB n k)) = true := h
      rw [Bool.and_eq_true, decide_eq_true_eq] at h
      exact Bd.tuple h.1 fun x hx => bdB_ok (List.all_eq_true.mp h.2 x hx)
    | _ => simp [bdB] at h
/-- what is new in H' -/
def nw (H H' : Hp) : Hp := fun a => match H a with
  | some _ => none
  | none => H' a
/-- R, and what is new in H' -/
def jn (H R H' : Hp) : Hp := fun a => match H a with
  | some _ => R a
  | none => H' a
theorem nw_new {H H' : Hp} {a : Addr} {o : HO} (h : H a = none) (e : H' a = some o) : nw H H' a = some o := by unfold nw; rw [h]; exact e
theorem nw_some {H H' : Hp} {a : Addr} {o : HO} (e : nw H H' a = some o) : H a = none ∧ H' a = some o := by
  unfold nw at e
  split at e
  · cases e
  · exact ⟨by assumption, e⟩
theorem jn_new {H R H' : Hp} {a : Addr} {o : HO} (h : H a = none) (e : H' a = some o) : jn H R H' a = some o := by unfold jn; rw [h]; exact e
theorem jn_old {b : Addr} {H R H' : Hp} (r : Same R (off b H)) : Same R (jn H R H') := fun a o e => by
  unfold jn
  rw [(off_some (r a o e)).2]
  exact e
theorem jn_nw {H R H' : Hp} : Same (nw H H') (jn H R H') := fun a o e => by
  obtain ⟨h, e⟩ := nw_some e
  exact jn_new h e
theorem jn_off {b : Addr} {H R H' : Hp} (hb : Bag H b) (r : Same R (off b H)) (g : Gr b H H') : Same (jn H R H') (off b H') := fun a o e => by
  unfold jn at e
  split at e
  · obtain ⟨n, e2⟩ := off_some (r a o e)
    exact off_mk n (g.2 a o n e2)
  · rename_i h
    refine off_mk (fun z => ?_) e
    obtain ⟨x, y, e2, _⟩ := hb
    rw [← z, h] at e2
    cases e2
theorem jn_step {b : Addr} {H0 H1 H2 H3 R : Hp} (hb : Bag H0 b) (r : Same R (off b H0)) (g : Gr b H0 H1) (k : ∀ a o, H1 a = none → H2 a = some o → H3 a = some o) : Same (jn H1 R H2) (jn H0 R H3) := fun a o e => by
  unfold jn at e
  split at e
  · exact jn_old r a o e
  · rename_i h
    exact jn_new (g.free hb h) (k a o h e)
theorem nw_step {H0 H1 H2 : Hp} (k : ∀ a o, H0 a = none → H1 a = some o → H2 a = some o) : Same (nw H0 H1) (nw H0 H2) := fun a o e => by
  obtain ⟨h, e⟩ := nw_some e
  exact nw_new h (k a o h e)
theorem Gr.nws {b : Addr} {H0 H1 H2 : Hp} (hb : Bag H0 b) (g : Gr b H1 H2) : Same (nw H0 H1) (nw H0 H2) := nw_step fun a o h e => g.2 a o (fun z => by
  obtain ⟨x, y, e2, _⟩ := hb
  rw [← z, h] at e2
  cases e2) e
/-- _law_odd(bag): a thing of any kind, all new -/
def spOdd (K : PySem.W.Frag) : Sp := fun vs H Q _ => ∃ b, vs = [.ref b] ∧ Bag H b ∧ ∀ v d H', Bd 0 3 d → Gr b H H' → DV K (nw H H') v d → Q v H'
/-- _law_spoilt(bag, thing), the thing less than k deep -/
def spSpoilt (K : PySem.W.Frag) (k : Nat) : Sp := fun vs H Q _ => ∃ b v d n j R, vs = [.ref b, v] ∧ Bag H b ∧ Same R (off b H) ∧ DV K R v d ∧ Bd n j d ∧ j < k ∧ n ≤ 7 ∧
  ∀ v' d' H', Bd (n + 1) (j + 3) d' → Gr b H H' → DV K (jn H R H') v' d' → Q v' H'
theorem Bd.all {n k : Nat} {ds es : List PyData} (h : ∀ x ∈ ds, Bd n k x) (s : ∀ x ∈ es, x ∈ ds) : ∀ x ∈ es, Bd n k x := fun x hx => h x (s x hx)
theorem cut_lo (xs : List V) (i : Int) (h0 : 0 ≤ i) (h1 : i ≤ xs.length) : cutV xs none (some i) = xs.take i.toNat := by
  obtain ⟨m, rfl⟩ : ∃ m : Nat, i = m := ⟨i.toNat, by omega⟩
  unfold cutV
  rw [HT.sIx_none, HT.sIx_nat, Nat.min_eq_left (by omega)]
  simp
theorem cut_hi (xs : List V) (i : Int) (h0 : 0 ≤ i) (h1 : i ≤ xs.length) : cutV xs (some i) none = xs.drop i.toNat := by
  obtain ⟨m, rfl⟩ : ∃ m : Nat, i = m := ⟨i.toNat, by omega⟩
  unfold cutV
  rw [HT.sIx_none, HT.sIx_nat, Nat.min_eq_left (by omega), Int.toNat_natCast]
  exact List.take_of_length_le (by rw [List.length_drop]; exact Nat.le_refl _)
theorem Gr.lst {b p : Addr} {H : Hp} {xs : List V} (h : Bag H b) (hp : H p = none) : Gr b H (upd H p (.lst xs)) := Gr.new h hp
/-- what is kept in a list of one's own -/
theorem Dats.put {K : PySem.W.Frag} {b p : Addr} {H0 H : Hp} {o : HO} {vs : List V} {ds : List PyData} (h : Dats K b H0 vs ds) (g : Gr b H0 H) (n : p ≠ b) (hp : H0 p = none) : Dats K b (upd H p o) vs ds := h.gr (g.put n hp)
theorem Dat.put {K : PySem.W.Frag} {b p : Addr} {H0 H : Hp} {o : HO} {v : V} {d : PyData} (h : Dat K b H0 v d) (g : Gr b H0 H) (n : p ≠ b) (hp : H0 p = none) : Dat K b (upd H p o) v d := h.gr (g.put n hp)
theorem mkTup {K : PySem.W.Frag} {b p : Addr} {H0 H : Hp} {vs : List V} {ds : List PyData} (hb : Bag H0 b) (g : Gr b H0 H) (n : H p = none) (h : DVs K (nw H0 H) vs ds) : DV K (nw H0 (upd H p (.tup vs))) (.ref p) (.tuple ds) :=
  .tup (.inl (.inl (nw_new (g.free hb n) upd_same))) (DVs.same (Gr.nws hb (Gr.new g.1 n)) h)
theorem mkLst {K : PySem.W.Frag} {b p : Addr} {H0 H : Hp} {vs : List V} {ds : List PyData} (hb : Bag H0 b) (g : Gr b H0 H) (n : H p = none) (h : DVs K (nw H0 H) vs ds) : DV K (nw H0 (upd H p (.lst vs))) (.ref p) (.list ds) :=
  .lst (nw_new (g.free hb n) upd_same) (DVs.same (Gr.nws hb (Gr.new g.1 n)) h)
theorem mkAt {b p : Addr} {H0 H : Hp} {vs : List V} (hb : Bag H0 b) (g : Gr b H0 H) (n : H p = none) : nw H0 (upd H p (.lst vs)) p = some (.lst vs) := nw_new (g.free hb n) upd_same
def seqD : Bool → List PyData → PyData
  | true, ds => .tuple ds
  | false, ds => .list ds
theorem ix_nat {n : Nat} {i : Int} (h0 : 0 ≤ i) (h1 : i < n) : ixN n i = some i.toNat := by
  unfold ixN
  rw [if_pos h0, if_pos (by omega)]
theorem Sq.same {K : PySem.W.Frag} {H H' : Hp} {a : Addr} {xs : List V} (e : Same H H') (h : Sq K H a xs) : Sq K H' a xs := h.elim (fun h => .inl (e.seq h)) fun h => .inr (same_tup e h)
theorem Bd.unint {n k : Nat} {i : Int} (h : Bd n k (.int i)) : i.natAbs ≤ 10 ^ 40 + 2000 * n := by cases k <;> exact h
theorem Bd.unstr {n k : Nat} {z : Str} (h : Bd n k (.str z)) : z.length ≤ 2000 * 3 ^ n := by cases k <;> exact h
theorem mem7 {α : Type} {P : α → Prop} {a b c d e f g : α} (h1 : P a) (h2 : P b) (h3 : P c) (h4 : P d) (h5 : P e) (h6 : P f) (h7 : P g) : ∀ x ∈ [a, b, c, d, e, f, g], P x := by
  intro x hx
  simp only [List.mem_cons, List.not_mem_nil, or_false] at hx
  rcases hx with rfl | rfl | rfl | rfl | rfl | rfl | rfl <;> assumption
theorem Bd.lenT {n k : Nat} {d : PyData} (h : Bd n k d) : Tc.lenT d ≤ 120 + n := by
  cases d with
  | tuple ds =>
    obtain ⟨j, _, h, _⟩ := h.untuple
    exact h
  | _ => exact Nat.zero_le _
theorem Bd.tab {rows : List (Int × Int)} {ks : List Int} (h : RowsIn ks rows) (hk : ∀ k ∈ ks, 0 ≤ k ∧ k ≤ 999) (hl : ks.length ≤ 120) : Bd 0 2 (tabD rows) := by
  refine Bd.tuple (by rw [List.length_map, ← List.length_map (f := (·.1)) (as := rows)]; exact Nat.le_trans h.1.length_le hl) fun x hx => ?_
  obtain ⟨r, hr, rfl⟩ := List.mem_map.mp hx
  have h1 := h.2 r hr
  have h2 := hk r.1 (h.1.subset (List.mem_map_of_mem hr))
  refine Bd.tuple (by show 2 ≤ _; omega) fun y hy => ?_
  simp only [List.mem_cons, List.not_mem_nil, or_false] at hy
  rcases hy with rfl | rfl <;> exact Bd.int (by omega)
/-- the law's own promise -/
def spLaw (K : PySem.W.Frag) : Sp := fun vs H Q _ => ∃ (a : Addr) (ns : List Int), vs = [.ref a] ∧ SqL K H a (ns.map V.int) ∧ ns.length ≤ 63 ∧ ∀ H', Q (.bl true) H'
theorem Bag.same {b : Addr} {H H' : Hp} (h : Bag H b) (s : Same H H') : Bag H' b := by
  obtain ⟨x, y, e, r⟩ := h
  exact ⟨x, y, s _ _ e, r⟩
theorem Gr.ofs {b : Addr} {H H' : Hp} (h : Bag H b) (s : Same H H') : Gr b H H' := ⟨h.same s, fun a o _ e => s a o e⟩
/-- what was there ahead of b stays -/
theorem Gr.base {b : Addr} {H H0 H' : Hp} (g : Gr b H0 H') (s : Same H H0) (n : H b = none) : Same H H' := fun a u e => g.2 a u (fun z => by rw [z, n] at e; cases e) (s a u e)
end Tc

/-! Changes, entries, logs. -/
namespace Tc
open PySem PySem.Spec PyProof.Rows L2
/-! ### is True, is False, is None; in -/
def rIsB : R2 := fun x y H Q => match y with
  | .non => Q (.bl (decide (x = .non))) H
  | .bl b => match x with
    | .bl a => Q (.bl (decide (a = b))) H
    | _ => False
  | _ => False
def rNotB : R2 := fun x y H Q => match y with
  | .non => Q (.bl (!decide (x = .non))) H
  | .bl b => match x with
    | .bl a => Q (.bl (!decide (a = b))) H
    | _ => False
  | _ => False
theorem op_isB {X : Cx} : OpR X (compareOp .Is) rIsB := fun pins s σ H x y v u Q I rx ry q => by
  unfold rIsB at q
  split at q
  · exact op_isN pins s σ H _ _ v u Q I rx ry ⟨rfl, q⟩
  · split at q
    · exact op_isBl pins s σ H _ _ v u Q I rx ry ⟨_, _, rfl, rfl, q⟩
    · exact q.elim
  · exact q.elim
theorem op_isnotB {X : Cx} : OpR X (compareOp .IsNot) rNotB := fun pins s σ H x y v u Q I rx ry q => by
  unfold rNotB at q
  split at q
  · exact op_notN pins s σ H _ _ v u Q I rx ry ⟨rfl, q⟩
  · split at q
    · exact op_notBl pins s σ H _ _ v u Q I rx ry ⟨_, _, rfl, rfl, q⟩
    · exact q.elim
  · exact q.elim
/-- x in a list or tuple of data -/
def rInP (K : PySem.W.Frag) (neg : Bool) : R2 := fun x y H Q => ∃ d ds, Dp K H x d ∧ (Dp K H y (.list ds) ∨ Dp K H y (.tuple ds)) ∧ d.depth ≤ 60 ∧ Q (.bl (if neg then !(ds.any fun z => PyData.eqv z d) else ds.any fun z => PyData.eqv z d)) H
theorem op_inP {X : Cx} (hu : X.A.units + 64 < cLine) : OpR X (compareOp .In) (rInP X.K false) := fun pins s σ H x y v u Q I rx ry q => by
  obtain ⟨d, ds, hd, hy, hm, q⟩ := q
  obtain ⟨as, r1⟩ := Dp.reads I d x v hd rx
  have pd := dp_plain hd
  rcases hy with hy | hy
  · obtain ⟨bs, r2⟩ := Dp.reads I _ y u hy ry
    have pl : PyData.plainAll ds = true := by have z := dp_plain hy; simpa only [PyData.plain] using z
    exact SeqAt.in_list_data r2 r1 pl pd (by omega) ⟨.bl _, H, I, rfl, q⟩
  · obtain ⟨bs, r2⟩ := Dp.reads I _ y u hy ry
    have pl : PyData.plainAll ds = true := by have z := dp_plain hy; simpa only [PyData.plain] using z
    exact SeqAt.in_tuple_data r2 r1 pl pd (by omega) ⟨.bl _, H, I, rfl, q⟩
theorem op_notinP {X : Cx} (hu : X.A.units + 64 < cLine) : OpR X (compareOp .NotIn) (rInP X.K true) := fun pins s σ H x y v u Q I rx ry q => by
  obtain ⟨d, ds, hd, hy, hm, q⟩ := q
  obtain ⟨as, r1⟩ := Dp.reads I d x v hd rx
  have pd := dp_plain hd
  rcases hy with hy | hy
  · obtain ⟨bs, r2⟩ := Dp.reads I _ y u hy ry
    have pl : PyData.plainAll ds = true := by have z := dp_plain hy; simpa only [PyData.plain] using z
    exact SeqAt.notIn_list_data r2 r1 pl pd (by omega) ⟨.bl _, H, I, rfl, q⟩
  · obtain ⟨bs, r2⟩ := Dp.reads I _ y u hy ry
    have pl : PyData.plainAll ds = true := by have z := dp_plain hy; simpa only [PyData.plain] using z
    exact SeqAt.notIn_tuple_data r2 r1 pl pd (by omega) ⟨.bl _, H, I, rfl, q⟩
theorem inK {X : Cx} {K : PySem.W.Frag} (hu : X.A.units + 64 < cLine) (h : X.K = K := by rfl) : OpR X (compareOp .In) (rInP K false) := h ▸ op_inP hu
theorem notinK {X : Cx} {K : PySem.W.Frag} (hu : X.A.units + 64 < cLine) (h : X.K = K := by rfl) : OpR X (compareOp .NotIn) (rInP K true) := h ▸ op_notinP hu
/-! ### a < b < c as a test -/
theorem pt_chainG {X : Cx} {a b c : Expr} {ta tb tc : TE} {pos : Pos} {op op' : CmpOp} {r r' : R2} (ho : OpR X (compareOp op) r) (ho' : OpR X (compareOp op') r') (ha : PE X a ta) (hb : PE X b tb) (hc : PE X c tc)
    (hm : lastMarks [op, op'] [b, c] = false := by with_unfolding_all rfl) : PT X (.Compare a [op, op'] [b, c] pos) (tTestG (tChainG r r' ta tb tc)) := by
  refine ⟨fun pins s σ H Q I h => ?_⟩
  refine isTrue_chain (thn (ha.run pins s σ H _ I h) fun v s1 ⟨x, H1, I1, r1, q1⟩ => test_link (thn (hb.run pins s1 σ H1 _ I1 q1) fun u s2 ⟨y, H2, I2, r2, q2⟩ =>
    thn (ho pins s2 σ H2 x y v u _ I2 r1 r2 q2) fun d s3 ⟨z, H3, I3, r3, q3⟩ => ?_)) hm
  cases z with
  | bl k =>
    cases r3
    refine wpAny_truthy_bool ?_
    cases k with
    | false => exact ite_ff ⟨H3, I3, q3⟩
    | true =>
      refine ite_tt (test_last (thn (hc.run pins s3 σ H3 _ I3 q3) fun w' s4 ⟨z', H4, I4, r4, q4⟩ => thn (ho' pins s4 σ H4 y z' u w' _ I4 r2 r4 q4) fun d' s5 ⟨z2, H5, I5, r5, q5⟩ => ?_))
      cases z2 with
      | bl k2 =>
        cases r5
        exact wpAny_truthy_bool ⟨H5, I5, q5⟩
      | _ => exact (show False from q5).elim
  | _ => exact (show False from q3).elim
/-- a comprehension whose element is a function of the item, and may make new things -/
theorem lc_grow {α : Type} {K : PySem.W.Frag} {H1 : Hp} {a : Addr} (zs : List (V × α)) {te : TE} {vs : List Nat} {σ : L2.St} {Q : Addr → Hp → Prop} {i : Nat} (f : V × α → V) (hs : Sq K H1 a (zs.map (·.1))) (few : zs.length < sizeLine)
    (hw : ∀ x, wipe ((wipe σ vs).set i (some x)) vs = wipe σ vs)
    (he : ∀ (z : V × α) (H : Hp), z ∈ zs → Same H1 H → ∀ Qe : VK, (∀ H', Same H H' → Qe (f z) H') → te ((wipe σ vs).set i (some z.1)) H Qe)
    (q : ∀ D H', H1 D = none → Same H1 H' → H' D = some (.lst (zs.map f)) → Q D H') :
    ∃ ys, Sq K H1 a ys ∧ ∀ J G, Walk J ys.length G (YAt ys) → At H1 a G → ∀ D, H1 D = none → ∃ W : Nat → Nat → Hp → Prop, (∃ m, W 0 m (upd H1 D (.lst []))) ∧ ∀ i' m H, W i' m H →
      (J.stop i' H ∧ Q D H) ∨ (J.go i' H ∧ ∃ Nx : Hp → Prop, (∀ H', Nx H' → ∃ m', m' < m ∧ W (i' + 1) m' H') ∧ ∀ x H', J.yld i' H x H' → gName i x (wipe σ vs) H' fun σ2 H2 => wipe σ2 vs = wipe σ vs ∧ tYes σ2 H2 fun b H3 =>
        if b = true then te σ2 H3 fun y H4 => ∃ acc, H4 D = some (.lst acc) ∧ acc.length < sizeLine ∧ Nx (upd H4 D (.lst (acc ++ [y]))) else Nx H3) := by
  refine ⟨_, hs, fun J G w hG D hD => ?_⟩
  rw [List.length_map] at w
  refine lc_it w (fun k H => Same H1 H ∧ H D = some (.lst ((zs.take k).map f))) ⟨same_upd hD, upd_same⟩ (fun k H hk e => hG H fun o ho => e.1 _ _ ho) (fun k x H H' hk e y => ?_) (fun H e => ?_)
  · obtain ⟨rfl, hx⟩ := y
    rw [List.getElem?_map, List.getElem?_eq_getElem hk] at hx
    obtain rfl := Option.some.inj hx
    refine ⟨hw _, ?_⟩
    show te _ _ _
    refine he zs[k] _ (List.getElem_mem hk) e.1 _ fun H'' sm => ⟨_, sm _ _ e.2, ?_, fun a o ha => ?_, ?_⟩
    · rw [List.length_map, List.length_take]; omega
    · have n : a ≠ D := fun z => by rw [z, hD] at ha; cases ha
      rw [upd_ne n]
      exact sm _ _ (e.1 _ _ ha)
    · rw [upd_same, List.take_add_one, List.getElem?_eq_getElem hk, List.map_append]; rfl
  · have e2 := e.2
    rw [List.take_length] at e2
    exact q D H hD e.1 e2
theorem lc_growF {α : Type} {K : PySem.W.Frag} {H1 : Hp} {a : Addr} (zs : List (V × α)) {tt : TT} {te : TE} {vs : List Nat} {σ : L2.St} {Q : Addr → Hp → Prop} {i : Nat} (p : V × α → Bool) (f : V × α → V) (hs : Sq K H1 a (zs.map (·.1))) (few : zs.length < sizeLine)
    (hw : ∀ x, wipe ((wipe σ vs).set i (some x)) vs = wipe σ vs)
    (ht : ∀ (z : V × α) (H : Hp), z ∈ zs → Same H1 H → ∀ Qe : Bool → Hp → Prop, (∀ H', Same H H' → Qe (p z) H') → tt ((wipe σ vs).set i (some z.1)) H Qe)
    (he : ∀ (z : V × α) (H : Hp), z ∈ zs → Same H1 H → p z = true → ∀ Qe : VK, (∀ H', Same H H' → Qe (f z) H') → te ((wipe σ vs).set i (some z.1)) H Qe)
    (q : ∀ D H', H1 D = none → Same H1 H' → H' D = some (.lst ((zs.filter p).map f)) → Q D H') :
    ∃ ys, Sq K H1 a ys ∧ ∀ J G, Walk J ys.length G (YAt ys) → At H1 a G → ∀ D, H1 D = none → ∃ W : Nat → Nat → Hp → Prop, (∃ m, W 0 m (upd H1 D (.lst []))) ∧ ∀ i' m H, W i' m H →
      (J.stop i' H ∧ Q D H) ∨ (J.go i' H ∧ ∃ Nx : Hp → Prop, (∀ H', Nx H' → ∃ m', m' < m ∧ W (i' + 1) m' H') ∧ ∀ x H', J.yld i' H x H' → gName i x (wipe σ vs) H' fun σ2 H2 => wipe σ2 vs = wipe σ vs ∧ tt σ2 H2 fun b H3 =>
        if b = true then te σ2 H3 fun y H4 => ∃ acc, H4 D = some (.lst acc) ∧ acc.length < sizeLine ∧ Nx (upd H4 D (.lst (acc ++ [y]))) else Nx H3) := by
  refine ⟨_, hs, fun J G w hG D hD => ?_⟩
  rw [List.length_map] at w
  refine lc_it w (fun k H => Same H1 H ∧ H D = some (.lst (((zs.take k).filter p).map f))) ⟨same_upd hD, upd_same⟩ (fun k H hk e => hG H fun o ho => e.1 _ _ ho) (fun k x H H' hk e y => ?_) (fun H e => ?_)
  · obtain ⟨rfl, hx⟩ := y
    rw [List.getElem?_map, List.getElem?_eq_getElem hk] at hx
    obtain rfl := Option.some.inj hx
    have et : (zs.take (k + 1)).filter p = (zs.take k).filter p ++ ([zs[k]].filter p) := by
      rw [List.take_add_one, List.getElem?_eq_getElem hk, List.filter_append]; rfl
    refine ⟨hw _, ht zs[k] _ (List.getElem_mem hk) e.1 _ fun H2 s2 => ?_⟩
    show if p zs[k] = true then _ else _
    cases hp : p zs[k] with
    | true =>
      show te _ _ _
      refine he zs[k] _ (List.getElem_mem hk) (e.1.trans s2) hp _ fun H'' sm => ⟨_, sm _ _ (s2 _ _ e.2), ?_, fun a o ha => ?_, ?_⟩
      · rw [List.length_map]
        have := List.length_filter_le p (zs.take k)
        rw [List.length_take] at this
        omega
      · have n : a ≠ D := fun z => by rw [z, hD] at ha; cases ha
        rw [upd_ne n]
        exact sm _ _ (s2 _ _ (e.1 _ _ ha))
      · rw [upd_same, et, List.map_append, List.filter_cons_of_pos hp]; rfl
    | false =>
      refine ⟨e.1.trans s2, ?_⟩
      rw [et, List.filter_cons_of_neg (by rw [hp]; exact Bool.false_ne_true)]
      simp only [List.filter_nil, List.append_nil]
      exact s2 _ _ e.2
  · have e2 := e.2
    rw [List.take_length] at e2
    exact q D H hD e.1 e2
theorem at0 {x : V} {xs : List V} : atI (x :: xs) 0 = some x := atI_nat (j := 0) rfl
theorem at1 {x y : V} {xs : List V} : atI (x :: y :: xs) 1 = some y := atI_nat (j := 1) rfl
theorem at2 {x y z : V} {xs : List V} : atI (x :: y :: z :: xs) 2 = some z := atI_nat (j := 2) rfl
/-! ### what is what -/
def changeT (s : Str) : List PyData → Bool
  | [x] => decide (s = "drop") && withinD x 0 999
  | [x, y] => decide (s = "put") && (withinD x 0 999 && withinD y 0 999)
  | _ => false
def changeD : PyData → Bool
  | .tuple (.str s :: r) => changeT s r
  | _ => false
def changesD : PyData → Bool
  | .tuple ds => decide (1 ≤ ds.length) && (decide (ds.length ≤ 6) && ds.all changeD)
  | _ => false
def geD (lo : Int) : PyData → Bool
  | .int i => decide (lo ≤ i)
  | _ => false
def entryT (s : Str) : List PyData → Bool
  | [x] => decide (s = "group") && changesD x
  | [x, y] => (decide (s = "low") || decide (s = "high")) && (geD 1 x && geD 0 y)
  | _ => false
def entryD : PyData → Bool
  | .tuple (.str s :: r) => entryT s r
  | _ => false
def logD : PyData → Bool
  | .list ds => decide (ds.length ≤ 400) && ds.all entryD
  | _ => false
theorem eqv_unit (l : List PyData) : PyData.eqv (.tuple l) (.tuple []) = l.isEmpty := by cases l <;> rfl
theorem entry_last {s : Str} {ds : List PyData} (h : ds.length ≠ 1) (h2 : ds.length ≠ 2) : entryT s ds = false := by
  match ds, h, h2 with
  | [], _, _ => rfl
  | [_], h, _ => exact absurd rfl h
  | [_, _], _, h => exact absurd rfl h
  | _ :: _ :: _ :: _, _, _ => rfl
theorem change_last {s : Str} {ds : List PyData} (h : ds.length ≠ 1) (h2 : ds.length ≠ 2) : changeT s ds = false := by
  match ds, h, h2 with
  | [], _, _ => rfl
  | [_], h, _ => exact absurd rfl h
  | [_, _], _, h => exact absurd rfl h
  | _ :: _ :: _ :: _, _, _ => rfl
theorem dec_true {p : Prop} [Decidable p] (h : p) : decide p = true := decide_eq_true h
theorem DVs.one {K : PySem.W.Frag} {H : Hp} {v : List V} {d : List PyData} (h : DVs K H v d) (n : v.length = 1) : ∃ x a, v = [x] ∧ d = [a] ∧ DV K H x a := by
  match v, d, h, n with
  | [x], [a], .cons h1 .nil, _ => exact ⟨x, a, rfl, rfl, h1⟩
theorem int_of_whole {K : PySem.W.Frag} {H : Hp} {v : V} {d : PyData} (h : DV K H v d) (e : wholeD d = true) : ∃ i, v = .int i ∧ d = .int i := by
  obtain ⟨i, rfl⟩ := wholeD_int e
  cases h
  exact ⟨i, rfl, rfl⟩
theorem geD_not {d : PyData} (h : wholeD d = false) (lo : Int) : geD lo d = false := by
  cases d with
  | int i => cases h
  | _ => rfl
/-- a look that may make new things, of anything -/
abbrev spLk (K : PySem.W.Frag) (f : PyData → Bool) : Sp := spLook K (fun _ => True) f
theorem changeD_len {ds : List PyData} (h : ds.length ≠ 2) (h2 : ds.length ≠ 3) : changeD (.tuple ds) = false := by
  match ds, h, h2 with
  | [], _, _ => rfl
  | .str s :: r, h, h2 => exact change_last (fun e => h (by rw [List.length_cons, e])) (fun e => h2 (by rw [List.length_cons, e]))
  | .none :: r, _, _ => rfl
  | .bool _ :: r, _, _ => rfl
  | .int _ :: r, _, _ => rfl
  | .list _ :: r, _, _ => rfl
  | .tuple _ :: r, _, _ => rfl
  | .dict _ :: r, _, _ => rfl
theorem entryD_len {ds : List PyData} (h : ds.length ≠ 2) (h2 : ds.length ≠ 3) : entryD (.tuple ds) = false := by
  match ds, h, h2 with
  | [], _, _ => rfl
  | .str s :: r, h, h2 => exact entry_last (fun e => h (by rw [List.length_cons, e])) (fun e => h2 (by rw [List.length_cons, e]))
  | .none :: r, _, _ => rfl
  | .bool _ :: r, _, _ => rfl
  | .int _ :: r, _, _ => rfl
  | .list _ :: r, _, _ => rfl
  | .tuple _ :: r, _, _ => rfl
  | .dict _ :: r, _, _ => rfl
/-- the test 2 <= len <= 3 -/
theorem two_three {n : Nat} (h : ¬ (!decide ((n : Int) ≤ 3)) = true) (h2 : decide ((2 : Int) ≤ (n : Int)) = true) : n = 2 ∨ n = 3 := by
  have h := Bool.eq_false_iff.mpr h
  rw [Bool.not_eq_false', decide_eq_true_eq] at h
  rw [decide_eq_true_eq] at h2
  omega
theorem not_true {b : Bool} (h : ¬ b = true) : b = false := Bool.eq_false_iff.mpr h
theorem nnot_true {b : Bool} (h : ¬ (!b) = true) : b = true := by cases b <;> simp_all
theorem not_eq_true {b : Bool} (h : (!b) = true) : b = false := by cases b <;> simp_all
end Tc

/-! Changes, entries and logs as they are drawn. -/
namespace Tc
open PySem PySem.Spec PyProof.Rows L2
inductive Ch where
  | drop (k : Int)
  | put (k w : Int)
def Ch.key : Ch → Int
  | .drop k => k
  | .put k _ => k
def chD : Ch → PyData
  | .drop k => .tuple [.str "drop", .int k]
  | .put k w => .tuple [.str "put", .int k, .int w]
def chsD (cs : List Ch) : PyData := .tuple (cs.map chD)
def Ch.In (ks : List Int) : Ch → Prop
  | .drop k => k ∈ ks
  | .put k w => k ∈ ks ∧ 0 ≤ w ∧ w ≤ 999
inductive Ent where
  | group (cs : List Ch)
  | mark (lo : Bool) (life num : Int)
def mkS : Bool → Str
  | true => "low"
  | false => "high"
def entD : Ent → PyData
  | .group cs => .tuple [.str "group", chsD cs]
  | .mark lo l n => .tuple [.str (mkS lo), .int l, .int n]
def Ent.In (ks : List Int) (m : Nat) : Ent → Prop
  | .group cs => 1 ≤ cs.length ∧ cs.length ≤ m ∧ ∀ c ∈ cs, c.In ks
  | .mark _ l n => 1 ≤ l ∧ l ≤ 4 ∧ 0 ≤ n ∧ n ≤ 8
theorem noL_ch (c : Ch) : noL (chD c) = true := by cases c <;> rfl
theorem noL_chs (cs : List Ch) : noL (chsD cs) = true := noLs_map chD noL_ch cs
theorem noL_ent (e : Ent) : noL (entD e) = true := by
  cases e with
  | group cs =>
    show (noL (.str "group") && (noL (chsD cs) && true)) = true
    rw [noL_chs]; rfl
  | mark lo l n => rfl
theorem Bd.ch {ks : List Int} {c : Ch} (h : c.In ks) (hk : ∀ k ∈ ks, 0 ≤ k ∧ k ≤ 999) : Bd 0 1 (chD c) := by
  cases c with
  | drop k =>
    have h0 := hk k h
    refine Bd.tuple (by show 2 ≤ _; omega) fun y hy => ?_
    simp only [List.mem_cons, List.not_mem_nil, or_false] at hy
    rcases hy with rfl | rfl
    · exact Bd.str (by show 4 ≤ _; decide)
    · exact Bd.int (by omega)
  | put k w =>
    have h0 := hk k h.1
    have h1 := h.2
    refine Bd.tuple (by show 3 ≤ _; omega) fun y hy => ?_
    simp only [List.mem_cons, List.not_mem_nil, or_false] at hy
    rcases hy with rfl | rfl | rfl
    · exact Bd.str (by show 3 ≤ _; decide)
    · exact Bd.int (by omega)
    · exact Bd.int (by omega)
theorem Bd.ent {ks : List Int} {m : Nat} {e : Ent} (h : e.In ks m) (hm : m ≤ 100) (hk : ∀ k ∈ ks, 0 ≤ k ∧ k ≤ 999) : Bd 0 3 (entD e) := by
  cases e with
  | group cs =>
    refine Bd.tuple (by show 2 ≤ _; omega) fun y hy => ?_
    simp only [List.mem_cons, List.not_mem_nil, or_false] at hy
    rcases hy with rfl | rfl
    · exact Bd.str (by show 5 ≤ _; decide)
    · refine Bd.tuple (by rw [List.length_map]; have := h.2.1; omega) fun x hx => ?_
      obtain ⟨c, hc, rfl⟩ := List.mem_map.mp hx
      exact Bd.ch (h.2.2 c hc) hk
  | mark lo l n =>
    obtain ⟨h1, h2, h3, h4⟩ := h
    refine Bd.tuple (by show 3 ≤ _; omega) fun y hy => ?_
    simp only [List.mem_cons, List.not_mem_nil, or_false] at hy
    rcases hy with rfl | rfl | rfl
    · exact Bd.str (by cases lo <;> (show _ ≤ 2000 * 3 ^ 0; decide))
    · exact Bd.int (by omega)
    · exact Bd.int (by omega)
theorem Bd.log {ks : List Int} {m : Nat} {es : List Ent} (h : ∀ e ∈ es, e.In ks m) (hl : es.length ≤ 120) (hm : m ≤ 100) (hk : ∀ k ∈ ks, 0 ≤ k ∧ k ≤ 999) : Bd 0 4 (.list (es.map entD)) := by
  refine Bd.list (by rw [List.length_map]; omega) fun x hx => ?_
  obtain ⟨e, he, rfl⟩ := List.mem_map.mp hx
  exact Bd.ent (h e he) hm hk
/-- a list or tuple apart from b -/
def SqAt (K : PySem.W.Frag) (b : Addr) (H : Hp) (p : Addr) (xs : List V) : Prop := Sq K (off b H) p xs
theorem SqAt.gr {K : PySem.W.Frag} {b p : Addr} {H H' : Hp} {xs : List V} (h : SqAt K b H p xs) (g : Gr b H H') : SqAt K b H' p xs := Sq.same g.same h
theorem SqAt.sq {K : PySem.W.Frag} {b p : Addr} {H : Hp} {xs : List V} (h : SqAt K b H p xs) : Sq K H p xs := Sq.same off_same h
theorem IntsAt.sqAt {K : PySem.W.Frag} {b p : Addr} {H : Hp} {ks : List Int} (h : IntsAt b H p ks) : SqAt K b H p (ks.map V.int) := .inl (SqL.of h)
/-- _law_of(bag, some) -/
def spOf (K : PySem.W.Frag) : Sp := fun vs H Q _ => ∃ (b p : Addr) (xs : List V), vs = [.ref b, .ref p] ∧ Bag H b ∧ SqAt K b H p xs ∧ 0 < xs.length ∧ xs.length < 1000000 ∧ ∀ (x : V) (H' : Hp), x ∈ xs → Gr b H H' → Q x H'
/-- _law_changes(bag, keys, most) -/
def spChanges (K : PySem.W.Frag) : Sp := fun vs H Q _ => ∃ (b p : Addr) (ks : List Int) (m : Nat), vs = [.ref b, .ref p, .int m] ∧ Bag H b ∧ IntsAt b H p ks ∧ 0 < ks.length ∧ ks.length ≤ 1000 ∧ 0 < m ∧ m ≤ 100 ∧
  ∀ (t : Addr) (vs : List V) (cs : List Ch) (H' : Hp), H t = none → 1 ≤ cs.length → cs.length ≤ m → (∀ c ∈ cs, Ch.In ks c) → Gr b H H' → H' t = some (.tup vs) → DVs K H' vs (cs.map chD) → Q (.ref t) H'
/-- _law_entry(bag, keys) -/
def spEntry (K : PySem.W.Frag) : Sp := fun vs H Q _ => ∃ (b p : Addr) (ks : List Int), vs = [.ref b, .ref p] ∧ Bag H b ∧ IntsAt b H p ks ∧ 0 < ks.length ∧ ks.length ≤ 1000 ∧
  ∀ (v : V) (e : Ent) (H' : Hp), Ent.In ks 3 e → Gr b H H' → DV K H' v (entD e) → Q v H'
/-- _law_log(bag, keys, most) -/
def spLog (K : PySem.W.Frag) : Sp := fun vs H Q _ => ∃ (b p : Addr) (ks : List Int) (m : Nat), vs = [.ref b, .ref p, .int m] ∧ Bag H b ∧ IntsAt b H p ks ∧ 0 < ks.length ∧ ks.length ≤ 1000 ∧ m ≤ 1000 ∧
  ∀ (D : Addr) (vs : List V) (es : List Ent) (H' : Hp), H D = none → es.length ≤ m → (∀ e ∈ es, Ent.In ks 3 e) → Gr b H H' → H' D = some (.lst vs) → DVs K H' vs (es.map entD) → Q (.ref D) H'
theorem DVs.nil_of {K : PySem.W.Frag} {H : Hp} {vs : List V} (h : DVs K H vs []) : vs = [] := by cases h; rfl
theorem dv_drop {K : PySem.W.Frag} {p : Addr} {H : Hp} {k : Int} (h : H p = some (.tup [.str "drop", .int k])) : DV K H (.ref p) (chD (.drop k)) := .tup (.inl (.inl h)) (.cons (.str _) (.cons (.int k) .nil))
theorem dv_put {K : PySem.W.Frag} {p : Addr} {H : Hp} {k w : Int} (h : H p = some (.tup [.str "put", .int k, .int w])) : DV K H (.ref p) (chD (.put k w)) := .tup (.inl (.inl h)) (.cons (.str _) (.cons (.int k) (.cons (.int w) .nil)))
theorem noLs_chs (cs : List Ch) : noLs (cs.map chD) = true := noLs_map chD noL_ch cs
theorem noLs_ents (es : List Ent) : noLs (es.map entD) = true := noLs_map entD noL_ent es
/-- a stretch between two statements -/
def tMid (t : TS) : TS := fun D σ H => ∃ M : L2.St → Hp → Prop, t { D with nx := M } σ H ∧ ∀ σ' H', M σ' H' → D.nx σ' H'
theorem ps_mid {X : Cx} {st : Stmt} {t : TS} (h : PS X st t) : PS X st (tMid t) := by
  refine ⟨fun pins s σ H D I ⟨M, q, k⟩ => thn (h.run pins s σ H _ I q) fun f s1 z => ?_⟩
  cases f with
  | next =>
    obtain ⟨σ', H', I', m⟩ := z
    exact ⟨σ', H', I', k _ _ m⟩
  | _ => exact z
theorem DVs.rep {K : PySem.W.Frag} {H : Hp} {v : V} {d : PyData} (h : DV K H v d) : ∀ n : Nat, DVs K H (List.replicate n [v]).flatten (List.replicate n d)
  | 0 => .nil
  | n + 1 => .cons h (DVs.rep h n)
theorem chD_ok {ks : List Int} {c : Ch} (h : c.In ks) (hk : ∀ k ∈ ks, 0 ≤ k ∧ k ≤ 999) : changeD (chD c) = true := by
  cases c with
  | drop k =>
    have h0 := hk k h
    show (decide (("drop" : Str) = "drop") && (decide (0 ≤ k) && decide (k ≤ 999))) = true
    rw [dec_true rfl, dec_true h0.1, dec_true h0.2]; rfl
  | put k w =>
    have h0 := hk k h.1
    show (decide (("put" : Str) = "put") && ((decide (0 ≤ k) && decide (k ≤ 999)) && (decide (0 ≤ w) && decide (w ≤ 999)))) = true
    rw [dec_true rfl, dec_true h0.1, dec_true h0.2, dec_true h.2.1, dec_true h.2.2]; rfl
theorem chsD_ok {ks : List Int} {cs : List Ch} (h : ∀ c ∈ cs, Ch.In ks c) (h1 : 1 ≤ cs.length) (h6 : cs.length ≤ 6) (hk : ∀ k ∈ ks, 0 ≤ k ∧ k ≤ 999) : changesD (chsD cs) = true := by
  show (decide (1 ≤ (cs.map chD).length) && (decide ((cs.map chD).length ≤ 6) && (cs.map chD).all changeD)) = true
  rw [List.length_map, dec_true h1, dec_true h6, List.all_map, Bool.true_and, Bool.true_and]
  exact List.all_eq_true.mpr fun c hc => chD_ok (h c hc) hk
theorem entD_ok {ks : List Int} {m : Nat} {e : Ent} (h : e.In ks m) (hm : m ≤ 6) (hk : ∀ k ∈ ks, 0 ≤ k ∧ k ≤ 999) : entryD (entD e) = true := by
  cases e with
  | group cs =>
    show (decide (("group" : Str) = "group") && changesD (chsD cs)) = true
    rw [dec_true rfl, chsD_ok h.2.2 h.1 (Nat.le_trans h.2.1 hm) hk]; rfl
  | mark lo l n =>
    obtain ⟨h1, h2, h3, h4⟩ := h
    have z : (geD 1 (.int l) && geD 0 (.int n)) = true := by
      show (decide (1 ≤ l) && decide (0 ≤ n)) = true
      rw [dec_true h1, dec_true h3]; rfl
    show ((decide (mkS lo = "low") || decide (mkS lo = "high")) && (geD 1 (.int l) && geD 0 (.int n))) = true
    rw [z, Bool.and_true]
    cases lo with
    | true => rw [dec_true (show mkS true = "low" from rfl)]; rfl
    | false => rw [dec_true (show mkS false = "high" from rfl), Bool.or_true]
theorem logD_rep {e : PyData} (h : entryD e = true) (n : Nat) : logD (.list (List.replicate n e)) = decide (n ≤ 400) := by
  show (decide ((List.replicate n e).length ≤ 400) && (List.replicate n e).all entryD) = _
  rw [List.length_replicate]
  have z : (List.replicate n e).all entryD = true := List.all_eq_true.mpr fun x hx => by rw [(List.mem_replicate.mp hx).2]; exact h
  rw [z, Bool.and_true]
/-- the parts of a list or tuple -/
def itemsD : PyData → List PyData
  | .list ds => ds
  | .tuple ds => ds
  | _ => []
end Tc

/-! Tables in dicts: dict(a tuple of pairs), sorted(a dict), a star in a target. -/
namespace Tc
open PySem PySem.Spec PyProof.Rows L2
/-- a made tuple of which all is known -/
def Frz (H : Hp) (a : Addr) (xs : List V) : Prop := ∃ o : Obj, H a = some (.frz o (.tup xs)) ∧ o.cls = .type "tuple" ∧ o.dict = none
theorem Frz.sqT {K : PySem.W.Frag} {H : Hp} {a : Addr} {xs : List V} (h : Frz H a xs) : SqT K H a xs := let ⟨o, e, _⟩ := h; .inl (.inr ⟨o, e⟩)
theorem Frz.same {H H' : Hp} {a : Addr} {xs : List V} (h : Frz H a xs) (s : Same H H') : Frz H' a xs := let ⟨o, e, r⟩ := h; ⟨o, s _ _ e, r⟩
theorem Frz.gr {b : Addr} {H H' : Hp} {a : Addr} {xs : List V} (h : Frz H a xs) (hb : Bag H b) (g : Gr b H H') : Frz H' a xs := by
  obtain ⟨o, e, r⟩ := h
  obtain ⟨x, y, eb, _⟩ := hb
  exact ⟨o, g.2 a _ (fun z => by rw [z, eb] at e; cases e) e, r⟩
section
variable {X : Cx}
/-- tuple(a list), told wholly -/
def rTupleF (K : PySem.W.Frag) : List V → Hp → VK → Prop := fun xs H Q => match xs with
  | [.ref p] => ∃ ys, SqL K H p ys ∧ ∀ l o, H l = none → o.cls = .type "tuple" → o.dict = none → Q (.ref l) (upd H l (.frz o (.tup ys)))
  | _ => False
theorem call_tupleF : CallR X (.type "tuple") (rTupleF X.K) := by
  intro pins s σ H xs us Q I r q
  unfold rTupleF at q
  split at q
  · obtain ⟨ys, hq, q⟩ := q
    obtain ⟨u, rfl, rx⟩ := vals1 r
    cases rx
    obtain ⟨its, r', pl, hz⟩ := I.list hq
    have hlen := r'.length
    refine call_tuple_list pl.isList (fun h' kp => ?_) (by simp only [List.size_toArray] <;> omega)
    have I1 : Inv X pins σ H { s with heap := h' } := I.kept (t' := s.toks) kp
    have I2 : Inv X pins σ (upd H h'.objs.size (.frz { cls := .type "tuple", data := .seq its.toArray } (.tup ys))) { s with heap := h'.push { cls := .type "tuple", data := .seq its.toArray } } :=
      I1.laid (t' := s.toks) (fun b o e => Heap.get?_push_of_some _ e) (Nat.le_refl _) (show ObjOk X.prog X.w _ _ _ (.frz { cls := .type "tuple", data := .seq its.toArray } (.tup ys)) from ⟨Heap.get?_push_size _ rfl, hz, its, r', IsTup.new _ _⟩)
    exact ⟨.ref h'.objs.size, _, I2, rfl, q _ _ (I1.hok.fresh (Nat.le_refl _)) rfl rfl⟩
  · exact q.elim
theorem tupleFK {K : PySem.W.Frag} (h : X.K = K := by rfl) : CallR X (.type "tuple") (rTupleF K) := h ▸ call_tupleF
/-- dict(a tuple of pairs) -/
def rDictT (K : PySem.W.Frag) : List V → Hp → VK → Prop := fun xs H Q => match xs with
  | [.ref a] => ∃ (ps : List Addr) (kvs : List (Key × V)), Frz H a (ps.map V.ref) ∧ Paired (fun p kv => SqT K H p [kV kv.1, kv.2]) ps kvs ∧ ∀ p, H p = none → Q (.ref p) (upd H p (.dK (mergeK [] kvs)))
  | _ => False
theorem pairs_of2 {pins : List (Addr × Obj)} {σ : L2.St} {H : Hp} {s : Shared} (I : Inv X pins σ H s) : ∀ {ps : List Addr} {kvs : List (Key × V)}, Paired (fun p kv => SqT X.K H p [kV kv.1, kv.2]) ps kvs →
    ∃ (prs : List (Key × Value)) (us : List Value), KV kvs prs ∧ prs.length = ps.length ∧ us.length = ps.length ∧ ∀ (j : Nat) (q : Key × Value) (u : Value), prs[j]? = some q → us[j]? = some u → ∃ (b : Addr), ps[j]? = some b ∧ IsTup s.heap b #[u, q.2] ∧ keyIs q.1 u = true
  | _, _, .nil => ⟨[], [], .nil, rfl, rfl, fun j q u e => by simp at e⟩
  | _, _, .cons (a := p) (b := kv) h t => by
    obtain ⟨prs, us, r, hl, hl2, hp⟩ := pairs_of2 I t
    obtain ⟨its, rv, ht, _⟩ := I.tuple h
    obtain ⟨u, y, ei, ru, ry⟩ := vals2 rv
    subst ei
    refine ⟨(kv.1, y) :: prs, u :: us, .cons ⟨rfl, ry⟩ r, by rw [List.length_cons, List.length_cons, hl], by rw [List.length_cons, List.length_cons, hl2], fun j q u' e e2 => ?_⟩
    cases j with
    | zero =>
      have e' : (kv.1, y) = q := Option.some.inj e
      have e2' : u = u' := Option.some.inj e2
      subst e' e2'
      exact ⟨p, rfl, ht, kV_is (P := X.prog) (w := X.w) ru⟩
    | succ j =>
      obtain ⟨b, e1, e3, e4⟩ := hp j q u' (by simpa using e) (by simpa using e2)
      exact ⟨b, by simpa using e1, e3, e4⟩
theorem call_dictT (hcalm : X.calm = true) : CallR X (.type "dict") (rDictT X.K) := by
  intro pins s σ H xs us Q I r q
  unfold rDictT at q
  split at q
  · rename_i a
    obtain ⟨ps, kvs, ⟨o, ea, hcl, hdn⟩, hp, q⟩ := q
    obtain ⟨u, eu, rx⟩ := vals1 r
    subst eu
    cases rx
    have ob : ObjOk X.prog X.w H s.heap a (.frz o (.tup (ps.map V.ref))) := I.hok a _ ea
    obtain ⟨ho, hz, its, rv, oT, hoT, hcT, nT, hdT⟩ := ob
    have eo : o = oT := Option.some.inj (ho.symm.trans hoT)
    subst eo
    have ei := refs_at rv
    subst ei
    rw [List.length_map] at hz
    obtain ⟨prs, us, rel, hl, hl2, hpr⟩ := pairs_of2 I hp
    have zl : (us.zip (prs.map (·.2))).length = ps.length := by rw [List.length_zip, List.length_map, hl, hl2, Nat.min_self]
    have PI : PairItems s.heap (ps.map Value.ref).toArray (fun j => ps.getD j 0) (us.zip (prs.map (·.2))) := by
      refine ⟨by rw [List.size_toArray, List.length_map, zl], fun j k v e => ?_⟩
      rw [List.getElem?_zip_eq_some, List.getElem?_map] at e
      obtain ⟨e1, e2⟩ := e
      cases eq : prs[j]? with
      | none => rw [eq] at e2; cases e2
      | some z =>
        rw [eq] at e2
        have e2 : z.2 = v := Option.some.inj e2
        subst e2
        obtain ⟨b, eb, ht, _⟩ := hpr j z k eq e1
        have eg : ps.getD j 0 = b := by rw [List.getD_eq_getElem?_getD, eb]; rfl
        have eg' : (fun j => ps.getD j 0) j = b := eg
        rw [eg']
        exact ⟨by rw [List.getElem?_toArray, List.getElem?_map, eb]; rfl, .inl ht⟩
    refine PySem.call_dict_pairs (knd := mixKind X.prog X.w) (kvs := prs) (PySem.PairArg.tuple a (ps.map Value.ref).toArray (fun j => ps.getD j 0) (us.zip (prs.map (·.2)))) (I.ok.hd hcalm) ⟨⟨o, nT, ho, hcl, hdn, hdT⟩, PI⟩ ⟨by rw [zl, hl], fun j key v e => ?_⟩ (by rw [zl]; exact hz) fun h' tk hd' k => ?_
    · have e : (us.zip (prs.map (·.2)))[j]? = some (key, v) := e
      rw [List.getElem?_zip_eq_some, List.getElem?_map] at e
      obtain ⟨e1, e2⟩ := e
      cases eq : prs[j]? with
      | none => rw [eq] at e2; cases e2
      | some z =>
        rw [eq] at e2
        have e2 : z.2 = v := Option.some.inj e2
        subst e2
        obtain ⟨b, eb, ht, hk⟩ := hpr j z key eq e1
        exact ⟨z.1, rfl, hk⟩
    · have hm : (s.heap.objs.size == sysModules) = false := beq_eq_false_iff_ne.mpr (Nat.ne_of_gt I.big)
      have hlen : (mergeK [] kvs).length ≤ sizeLine := by
        refine Nat.le_trans (length_mergeK kvs []) ?_
        rw [List.length_nil, Nat.zero_add, rel.length, hl]
        exact hz
      exact ⟨.ref s.heap.objs.size, upd H s.heap.objs.size (.dK (mergeK [] kvs)), I.laid (t' := tk) (fun b o' e => k b o' (by simp) e) (Nat.le_refl _) (show ObjOk X.prog X.w _ _ _ (.dK (mergeK [] kvs)) from ⟨hlen, hm, merged [] prs, KV.merge rel .nil, hd'⟩), rfl, q _ (I.hok.fresh (Nat.le_refl _))⟩
  · exact q.elim
theorem dictTK {K : PySem.W.Frag} (hc : X.calm = true := by rfl) (h : X.K = K := by rfl) : CallR X (.type "dict") (rDictT K) := h ▸ call_dictT hc
/-- sorted(a dict of ints) -/
def rSortD : List V → Hp → VK → Prop := fun xs H Q => match xs with
  | [.ref a] => ∃ (kvs : List (Key × V)) (ks : List Int), Rd H a (.dK kvs) ∧ kvs.map (·.1) = ks.map Sum.inl ∧ ks.length < 64 ∧ ∀ (ys : List Int) (p : Addr), ys.Perm ks → ys.Pairwise (· ≤ ·) → H p = none → Q (.ref p) (upd H p (.lst (ys.map V.int)))
  | _ => False
theorem sortDK (hc : X.calm = true := by rfl) : CallR X (.builtin "sorted") rSortD := call_of (call_sortedDI hc) fun xs H Q q => by
  unfold rSortD at q
  split at q
  · obtain ⟨kvs, ks, h⟩ := q
    exact ⟨_, kvs, ks, rfl, h⟩
  · exact q.elim
end
/-! ### *xs, y = a tuple -/
theorem star_up {prog : Program} {w : World} {A : Around} {E : Value → Shared → Prop} {s : Shared} {l : Addr} {items : Array Value} {Q : List Value → Shared → Prop} (hl : IsTup s.heap l items) (hh : A.handled = none) (hn : 1 ≤ items.size) (hz : items.size ≤ 16384)
    (h : ∀ (h' : Heap) (tk : Nat), (∀ b o, s.heap.get? b = some o → h'.get? b = some o) → Q ([.ref h'.objs.size] ++ items.toList.drop (items.size - 1)) { s with heap := h'.push { cls := .type "list", data := .seq (items.toList.take (items.size - 1)).toArray }, toks := tk }) :
    wpAny (model prog w) A (unpackItems (.ref l) 2 (some 0)) Q E s := by
  have hlt : l ≠ s.heap.objs.size := by obtain ⟨o, ho, _⟩ := hl; exact Nat.ne_of_lt (Heap.lt_size ho)
  unfold unpackItems
  refine wpAny_bind ?_
  unfold notIterableAtAll
  refine wpAny_bind (wpAny_specialOf hl.typeIs slot_tuple_iter.lookup ?_)
  refine wpAny_pure ?_
  simp only [Bool.false_eq_true, if_false]
  refine wpAny_bind (wpAny_holding (iter_tuple hl ?_))
  refine wpAny_bind (wpAny_holding (draw_tuple hlt 0 0 _ _ ⟨_, Heap.get?_push_size _ rfl, rfl, rfl⟩ (hl.push _) (by omega) fun h₁ hit₁ hs₁ => ?_))
  have hl₁ : IsTup h₁ l items := (hl.push _).extBut hs₁.extBut hlt
  have hit₁' := hit₁
  obtain ⟨oi, hoi, _⟩ := hit₁'
  have hl₁' := hl₁
  obtain ⟨ol, hol, _⟩ := hl₁'
  rw [List.drop_zero, List.take_zero]
  rw [if_neg (show ¬ (([] : List Value).length < 0) by simp)]
  refine wpAny_bind (wpAny_holding (PySem.W.kun_collect (s := { s with heap := h₁ }) (T := "tuple_iterator") (.inr (.inr (.inr rfl))) (Walks.tuple (A := A.in1) hh s.heap.objs.size l hlt items) (fun j u st => st.1.typeIs) (k := 0) (by omega) ⟨hit₁, hl₁⟩ (Heap.lt_size hoi) (Heap.lt_size hol) (fun h₂ tk hk => ?_) (by rw [sizeLine_eq]; omega)))
  rw [List.drop_zero]
  have hrl : items.toList.length = items.size := Array.length_toList
  show wpAny _ _ (if items.toList.length < 1 then _ else _) _ _ _
  rw [if_neg (by rw [hrl]; omega)]
  show wpAny _ _ (newList (items.toList.take (items.toList.length - 1)) >>= fun d => pure ([] ++ [d] ++ items.toList.drop (items.toList.length - 1))) _ _ _
  rw [hrl]
  have he : ∀ b o, s.heap.get? b = some o → h₂.get? b = some o := fun b o e => hk b o (Nat.ne_of_lt (Heap.lt_size e)) (hs₁.extBut b o (Nat.ne_of_lt (Heap.lt_size e)) (Heap.get?_push_of_some _ e))
  refine wpAny_bind (wpAny_newList ?_ ?_)
  · exact wpAny_pure (h h₂ tk he)
  · rw [List.length_take, hrl, sizeLine_eq]; omega
def gStar (K : PySem.W.Frag) (t : TGs) : TG := fun v σ H Q => ∃ a xs y, v = .ref a ∧ SqT K H a (xs ++ [y]) ∧ xs.length < 16384 ∧ ∀ L, H L = none → t [.ref L, y] σ (upd H L (.lst xs)) Q
theorem pg_star {X : Cx} {es fs : List Expr} {k : Nat} {t : TGs} {pos : Pos} (hc : X.calm = true) (h : PGs X fs t) (hlen : (assignEach es X.env).length = 2 := by rfl) (hst : (assignEach es X.env).findIdx? (·.1) = some 0 := by rfl)
    (hm : (assignEach es X.env).map (·.2) = (assignEach fs X.env).map (·.2) := by rfl) : PG X (.Tuple es k pos) (gStar X.K t) := by
  refine ⟨fun pins s σ H v u Q I r hw => ?_⟩
  obtain ⟨a, xs, y, e1, hq, hl, hw⟩ := hw
  subst e1
  cases r
  obtain ⟨its, rv, ht, hz⟩ := I.tuple hq
  have hlen2 := rv.length
  rw [List.length_append, List.length_singleton] at hlen2
  rw [assign_Tuple]
  refine wpAny_bind (wpAny_standAt ?_)
  unfold unpack
  rw [hlen, hst]
  refine wpAny_bind (wpAny_holding (star_up ht (I.ok.hd hc) (by rw [List.size_toArray]; omega) (by rw [List.size_toArray]; omega) fun h' tk k' => ?_))
  obtain ⟨u1, u2, e2, r1, r2⟩ := StX.vals_split rv
  subst e2
  have l1 := r1.length
  have l2 := r2.length
  have l3 : (u1 ++ u2).length - 1 = u1.length := by rw [List.length_append, ← l2, List.length_singleton, Nat.add_sub_cancel]
  have e3 : (u1 ++ u2).toArray.toList.drop ((u1 ++ u2).toArray.size - 1) = u2 := by rw [List.size_toArray, l3]; exact List.drop_left
  have e4 : (u1 ++ u2).toArray.toList.take ((u1 ++ u2).toArray.size - 1) = u1 := by rw [List.size_toArray, l3]; exact List.take_left
  rw [e3, e4]
  have I1 : Inv X pins σ H { s with heap := h', toks := tk } := I.kept (t' := tk) k'
  have I2 : Inv X pins σ (upd H h'.objs.size (.lst xs)) { s with heap := h'.push { cls := .type "list", data := .seq u1.toArray }, toks := tk } :=
    I1.laid (t' := tk) (fun b o e => Heap.get?_push_of_some _ e) (Nat.le_refl _) (show ObjOk X.prog X.w _ _ _ (.lst xs) from ⟨by rw [sizeLine_eq]; omega, u1, 0, r1, Heap.get?_push_size _ rfl⟩)
  rw [hm]
  exact h.run pins _ σ _ [.ref h'.objs.size, y] _ Q I2 (.cons rfl r2) (hw _ (I1.hok.fresh (Nat.le_refl _)))
theorem starTK {X : Cx} {K : PySem.W.Frag} {es fs : List Expr} {k : Nat} {t : TGs} {pos : Pos} (hc : X.calm = true) (h : PGs X fs t) (hlen : (assignEach es X.env).length = 2 := by rfl) (hst : (assignEach es X.env).findIdx? (·.1) = some 0 := by rfl)
    (hm : (assignEach es X.env).map (·.2) = (assignEach fs X.env).map (·.2) := by rfl) (hK : X.K = K := by rfl) : PG X (.Tuple es k pos) (gStar K t) := hK ▸ pg_star hc h hlen hst hm
end Tc

/-! Tables in dicts: what is what. -/
namespace Tc
open PySem PySem.Spec PyProof.Rows L2
abbrev Rw := Int × Int
def kvM (M : List Rw) : List (Key × V) := M.map fun r => (Sum.inl r.1, V.int r.2)
def putM (M : List Rw) (k w : Int) : List Rw := if (M.any fun r => decide (r.1 = k)) = true then M.map (fun r => if r.1 = k then (r.1, w) else r) else M ++ [(k, w)]
def dropM (M : List Rw) (k : Int) : List Rw := M.filter fun r => decide (r.1 ≠ k)
def getM (M : List Rw) (k : Int) : Option Int := (M.find? fun r => decide (r.1 = k)).map (·.2)
theorem kv_any (M : List Rw) (k : Int) : ((kvM M).any fun kv => decide (kv.1 = Sum.inl k)) = M.any fun r => decide (r.1 = k) := by
  induction M with
  | nil => rfl
  | cons r M ih =>
    show (decide ((Sum.inl r.1 : Key) = Sum.inl k) || _) = (decide (r.1 = k) || _)
    have e : decide ((Sum.inl r.1 : Key) = Sum.inl k) = decide (r.1 = k) := decide_eq_decide.mpr ⟨fun h => Sum.inl.inj h, fun h => by rw [h]⟩
    rw [e]
    exact congrArg _ ih
theorem put_kvs (M : List Rw) (k w : Int) : putK (kvM M) (Sum.inl k) (V.int w) = kvM (putM M k w) := by
  unfold putK putM
  rw [kv_any]
  split
  · unfold kvM
    rw [List.map_map, List.map_map]
    refine List.map_congr_left fun r _ => ?_
    show (if (Sum.inl r.1 : Key) = Sum.inl k then _ else _) = _
    by_cases h : r.1 = k
    · rw [if_pos (by rw [h])]
      show _ = ((fun r : Rw => (Sum.inl r.1, V.int r.2)) (if r.1 = k then (r.1, w) else r))
      rw [if_pos h]
    · rw [if_neg (fun z => h (Sum.inl.inj z))]
      show _ = ((fun r : Rw => (Sum.inl r.1, V.int r.2)) (if r.1 = k then (r.1, w) else r))
      rw [if_neg h]
  · unfold kvM
    rw [List.map_append]; rfl
theorem drop_kvs (M : List Rw) (k : Int) : dropK (kvM M) (Sum.inl k) = kvM (dropM M k) := by
  unfold dropK dropM kvM
  rw [List.filter_map]
  congr 1
  refine List.filter_congr fun r _ => ?_
  show decide ((Sum.inl r.1 : Key) ≠ Sum.inl k) = decide (r.1 ≠ k)
  exact decide_eq_decide.mpr ⟨fun h z => h (by rw [z]), fun h z => h (Sum.inl.inj z)⟩
theorem val_kvs (M : List Rw) (k : Int) : valV (kvM M) (Sum.inl k) = (getM M k).map V.int := by
  induction M with
  | nil => rfl
  | cons r M ih =>
    unfold getM
    by_cases h : r.1 = k
    · rw [List.find?_cons_of_pos (by exact decide_eq_true h)]
      exact valV_pos (p := ((Sum.inl r.1 : Key), V.int r.2)) (by rw [← h])
    · rw [List.find?_cons_of_neg (by exact fun z => h (of_decide_eq_true z))]
      exact (valV_neg (p := ((Sum.inl r.1 : Key), V.int r.2)) (fun z => h (Sum.inl.inj z))).trans ih
theorem keys_kvs (M : List Rw) : (kvM M).map (·.1) = (M.map (·.1)).map Sum.inl := by unfold kvM; rw [List.map_map, List.map_map]; rfl
def normM (rows : List Rw) : List Rw := rows.foldl (fun M r => putM M r.1 r.2) []
theorem merge_kvs (rows : List Rw) : mergeK [] (kvM rows) = kvM (normM rows) := by
  have key : ∀ (rows M : List Rw), mergeK (kvM M) (kvM rows) = kvM (rows.foldl (fun M r => putM M r.1 r.2) M) := by
    intro rows
    induction rows with
    | nil => intro M; rfl
    | cons r rows ih =>
      intro M
      show mergeK (putK (kvM M) (Sum.inl r.1) (V.int r.2)) (kvM rows) = _
      rw [put_kvs]
      exact ih _
  exact key rows []
/-- keys once each, among ks; worths are worths -/
def Mok (ks : List Int) (M : List Rw) : Prop := (M.map (·.1)).Nodup ∧ ∀ r ∈ M, r.1 ∈ ks ∧ 0 ≤ r.2 ∧ r.2 ≤ 999
theorem Mok.put {ks : List Int} {M : List Rw} {k w : Int} (h : Mok ks M) (hk : k ∈ ks) (h0 : 0 ≤ w) (h1 : w ≤ 999) : Mok ks (putM M k w) := by
  unfold putM
  split
  · refine ⟨?_, fun r hr => ?_⟩
    · have e : (M.map (fun r => if r.1 = k then (r.1, w) else r)).map (·.1) = M.map (·.1) := by
        rw [List.map_map]
        refine List.map_congr_left fun r _ => ?_
        show (if r.1 = k then (r.1, w) else r).1 = r.1
        split <;> rfl
      rw [e]; exact h.1
    · obtain ⟨z, hz, rfl⟩ := List.mem_map.mp hr
      have := h.2 z hz
      by_cases e : z.1 = k
      · rw [if_pos e]; exact ⟨this.1, h0, h1⟩
      · rw [if_neg e]; exact this
  · rename_i hn
    refine ⟨?_, fun r hr => ?_⟩
    · rw [List.map_append, List.nodup_append]
      refine ⟨h.1, by simp, fun a ha b hb => ?_⟩
      obtain ⟨z, hz, rfl⟩ := List.mem_map.mp ha
      have hb : b = k := by simpa using hb
      subst hb
      intro e
      exact hn (List.any_eq_true.mpr ⟨z, hz, decide_eq_true e⟩)
    · rcases List.mem_append.mp hr with hr | hr
      · exact h.2 r hr
      · cases List.mem_singleton.mp hr
        exact ⟨hk, h0, h1⟩
theorem Mok.drop {ks : List Int} {M : List Rw} {k : Int} (h : Mok ks M) : Mok ks (dropM M k) :=
  ⟨(List.filter_sublist.map _).nodup h.1, fun r hr => h.2 r (List.mem_filter.mp hr).1⟩
theorem Mok.norm {ks : List Int} {rows : List Rw} (h : ∀ r ∈ rows, r.1 ∈ ks ∧ 0 ≤ r.2 ∧ r.2 ≤ 999) : Mok ks (normM rows) := by
  have key : ∀ (rows M : List Rw), (∀ r ∈ rows, r.1 ∈ ks ∧ 0 ≤ r.2 ∧ r.2 ≤ 999) → Mok ks M → Mok ks (rows.foldl (fun M r => putM M r.1 r.2) M) := by
    intro rows
    induction rows with
    | nil => exact fun M _ h => h
    | cons r rows ih =>
      intro M hr hM
      have := hr r List.mem_cons_self
      exact ih _ (fun x hx => hr x (List.mem_cons_of_mem _ hx)) (hM.put this.1 this.2.1 this.2.2)
  exact key rows [] h ⟨List.nodup_nil, fun r hr => by cases hr⟩
theorem nodup_len : ∀ {a b : List Int}, a.Nodup → (∀ x ∈ a, x ∈ b) → a.length ≤ b.length
  | [], _, _, _ => Nat.zero_le _
  | x :: a, b, h, s => by
    obtain ⟨h1, h2⟩ := List.nodup_cons.mp h
    have hx := s x List.mem_cons_self
    have ih := nodup_len (a := a) (b := b.erase x) h2 fun y hy => (List.mem_erase_of_ne (fun (e : y = x) => h1 (by rw [← e]; exact hy))).mpr (s y (List.mem_cons_of_mem _ hy))
    rw [List.length_erase_of_mem hx] at ih
    have := List.length_pos_of_mem hx
    rw [List.length_cons]; omega
theorem Mok.len {ks : List Int} {M : List Rw} (h : Mok ks M) : M.length ≤ ks.length := by
  rw [← List.length_map (f := (·.1)) (as := M)]
  exact nodup_len h.1 fun x hx => by
    obtain ⟨r, hr, rfl⟩ := List.mem_map.mp hx
    exact (h.2 r hr).1
def sortI (l : List Int) : List Int := l.mergeSort fun a b => decide (a ≤ b)
def tabOf (M : List Rw) : List Rw := (sortI (M.map (·.1))).map fun k => (k, (getM M k).getD 0)
theorem strict_of {l : List Int} (n : l.Nodup) (p : l.Pairwise (· ≤ ·)) : l.Pairwise (· < ·) := by
  have z := n.and p
  exact z.imp fun h => by omega
theorem sort_is {l ys : List Int} (n : l.Nodup) (hp : ys.Perm l) (hs : ys.Pairwise (· ≤ ·)) : ys = sortI l := by
  have p2 : (sortI l).Perm l := List.mergeSort_perm _ _
  have s2 : (sortI l).Pairwise (· ≤ ·) := by
    have := List.pairwise_mergeSort (le := fun a b : Int => decide (a ≤ b)) (fun a b c h1 h2 => by simp at *; omega) (fun a b => by simp; omega) l
    exact this.imp fun h => of_decide_eq_true h
  exact rising_one (strict_of (hp.symm.nodup n) hs) (strict_of (p2.symm.nodup n) s2) fun k => hp.mem_iff.trans p2.mem_iff.symm
theorem get_mem {M : List Rw} {k : Int} (h : k ∈ M.map (·.1)) : ∃ w, getM M k = some w ∧ (k, w) ∈ M := by
  obtain ⟨r, hr, rfl⟩ := List.mem_map.mp h
  unfold getM
  cases e : M.find? fun z => decide (z.1 = r.1) with
  | none => exact absurd (decide_eq_true rfl) (List.find?_eq_none.mp e r hr)
  | some z =>
    have h1 := List.find?_some e
    have h2 := List.mem_of_find?_eq_some e
    have h1 : z.1 = r.1 := of_decide_eq_true h1
    exact ⟨z.2, rfl, by rw [← h1]; exact h2⟩
theorem sortI_mem {l : List Int} {k : Int} : k ∈ sortI l ↔ k ∈ l := (List.mergeSort_perm _ _).mem_iff
def chM (M : List Rw) : Ch → List Rw
  | .put k w => putM M k w
  | .drop k => dropM M k
def chsOf : Ent → List Ch
  | .group cs => cs
  | .mark .. => []
def entM (M : List Rw) (e : Ent) : List Rw := (chsOf e).foldl chM M
def logM (M : List Rw) (es : List Ent) : List Rw := es.foldl entM M
/-- the table behind so many entries -/
def tabAt (rows : List Rw) (es : List Ent) (n : Nat) : List Rw := tabOf (logM (normM rows) (es.take n))
theorem Mok.ch {ks : List Int} {M : List Rw} {c : Ch} (h : Mok ks M) (hc : c.In ks) : Mok ks (chM M c) := by
  cases c with
  | put k w => exact h.put hc.1 hc.2.1 hc.2.2
  | drop k => exact h.drop
theorem Mok.chs {ks : List Int} : ∀ {cs : List Ch} {M : List Rw}, Mok ks M → (∀ c ∈ cs, Ch.In ks c) → Mok ks (cs.foldl chM M)
  | [], _, h, _ => h
  | c :: cs, _, h, hc => Mok.chs (cs := cs) (h.ch (hc c List.mem_cons_self)) fun x hx => hc x (List.mem_cons_of_mem _ hx)
theorem Ent.In.chs {ks : List Int} {m : Nat} {e : Ent} (h : e.In ks m) : ∀ c ∈ chsOf e, Ch.In ks c := by
  cases e with
  | group cs => exact h.2.2
  | mark => exact fun c hc => by cases hc
theorem Mok.log {ks : List Int} {m : Nat} : ∀ {es : List Ent} {M : List Rw}, Mok ks M → (∀ e ∈ es, Ent.In ks m e) → Mok ks (logM M es)
  | [], _, h, _ => h
  | e :: es, _, h, he => Mok.log (es := es) (h.chs (he e List.mem_cons_self).chs) fun x hx => he x (List.mem_cons_of_mem _ hx)
theorem tabOf_mem {ks : List Int} {M : List Rw} (h : Mok ks M) {r : Rw} (hr : r ∈ tabOf M) : r.1 ∈ ks ∧ 0 ≤ r.2 ∧ r.2 ≤ 999 := by
  obtain ⟨k, hk, rfl⟩ := List.mem_map.mp hr
  obtain ⟨w, e, hm⟩ := get_mem (sortI_mem.mp hk)
  show k ∈ ks ∧ 0 ≤ (getM M k).getD 0 ∧ (getM M k).getD 0 ≤ 999
  rw [e]
  exact h.2 _ hm
theorem tabOf_len {ks : List Int} {M : List Rw} (h : Mok ks M) : (tabOf M).length ≤ ks.length := by
  unfold tabOf sortI
  rw [List.length_map, List.length_mergeSort, List.length_map]
  exact h.len
/-- a table as a tuple of which all is known -/
def TabAt (K : PySem.W.Frag) (H : Hp) (v : V) (rows : List Rw) : Prop := ∃ a ps, v = .ref a ∧ Frz H a (ps.map V.ref) ∧ Paired (fun p (r : Rw) => SqT K H p [.int r.1, .int r.2]) ps rows
theorem paired_dvs {K : PySem.W.Frag} {H : Hp} : ∀ {ps : List Addr} {rows : List Rw}, Paired (fun p (r : Rw) => SqT K H p [.int r.1, .int r.2]) ps rows → DVs K H (ps.map V.ref) (rows.map rowD)
  | _, _, .nil => .nil
  | _, _, .cons h t => .cons (.tup h (.cons (.int _) (.cons (.int _) .nil))) (paired_dvs t)
theorem dvs_paired {K : PySem.W.Frag} {H : Hp} : ∀ {vs : List V} {rows : List Rw}, DVs K H vs (rows.map rowD) → ∃ ps, vs = ps.map V.ref ∧ Paired (fun p (r : Rw) => SqT K H p [.int r.1, .int r.2]) ps rows
  | _, [], h => by
    rw [List.map_nil] at h
    cases h
    exact ⟨[], rfl, .nil⟩
  | _, r :: rows, h => by
    rw [List.map_cons] at h
    cases h with
    | cons h t =>
      obtain ⟨ps, e, hp⟩ := dvs_paired t
      obtain ⟨p, e2, hq⟩ := h.ints2
      subst e e2
      exact ⟨p :: ps, rfl, .cons hq hp⟩
theorem TabAt.dv {K : PySem.W.Frag} {H : Hp} {v : V} {rows : List Rw} (h : TabAt K H v rows) : DV K H v (tabD rows) := by
  obtain ⟨a, ps, rfl, hf, hp⟩ := h
  exact .tup hf.sqT (paired_dvs hp)
theorem TabAt.same {K : PySem.W.Frag} {H H' : Hp} {v : V} {rows : List Rw} (h : TabAt K H v rows) (s : Same H H') : TabAt K H' v rows := by
  obtain ⟨a, ps, rfl, hf, hp⟩ := h
  exact ⟨a, ps, rfl, hf.same s, Paired.mapP hp fun _ _ h => same_tup s h⟩
theorem TabAt.gr {K : PySem.W.Frag} {b : Addr} {H H' : Hp} {v : V} {rows : List Rw} (h : TabAt K H v rows) (hb : Bag H b) (g : Gr b H H') : TabAt K H' v rows := by
  obtain ⟨a, ps, rfl, hf, hp⟩ := h
  exact ⟨a, ps, rfl, hf.gr hb g, Paired.mapP hp fun _ _ h => sqT_ts (g.ts hb) h⟩
theorem TabAt.mk {K : PySem.W.Frag} {H : Hp} {l : Addr} {o : Obj} {vs : List V} {rows : List Rw} (hl : H l = none) (hc : o.cls = .type "tuple") (hd : o.dict = none) (h : DVs K H vs (rows.map rowD)) : TabAt K (upd H l (.frz o (.tup vs))) (.ref l) rows := by
  obtain ⟨ps, e, hp⟩ := dvs_paired h
  subst e
  exact ⟨l, ps, rfl, ⟨o, upd_same, hc, hd⟩, Paired.mapP hp fun _ _ h => same_tup (same_upd hl) h⟩
theorem paired_kvs {K : PySem.W.Frag} {H : Hp} : ∀ {ps : List Addr} {rows : List Rw}, Paired (fun p (r : Rw) => SqT K H p [.int r.1, .int r.2]) ps rows → Paired (fun p kv => SqT K H p [kV kv.1, kv.2]) ps (kvM rows)
  | _, _, .nil => .nil
  | _, _, .cons h t => .cons h (paired_kvs t)
/-- _law_table(bag, keys), its tuple wholly known -/
def spTableF (K : PySem.W.Frag) : Sp := fun vs H Q _ => ∃ (b p : Addr) (ks : List Int), vs = [.ref b, .ref p] ∧ Bag H b ∧ IntsAt b H p ks ∧ ks.length ≤ 1000 ∧ ∀ (v : V) (rows : List Rw) (H' : Hp), RowsIn ks rows → Gr b H H' → TabAt K H' v rows → Q v H'
/-- a change done in a dict -/
def spPut (K : PySem.W.Frag) : Sp := fun vs H Q _ => ∃ (d : Addr) (M : List Rw) (v : V) (c : Ch), vs = [.ref d, v] ∧ H d = some (.dK (kvM M)) ∧ M.length < 10000 ∧ DV K H v (chD c) ∧ Q .non (upd H d (.dK (kvM (chM M c))))
/-- a dict's rows -/
def spPairs (K : PySem.W.Frag) : Sp := fun vs H Q _ => ∃ (d : Addr) (M : List Rw), vs = [.ref d] ∧ H d = some (.dK (kvM M)) ∧ (M.map (·.1)).Nodup ∧ M.length < 64 ∧ ∀ (v : V) (H' : Hp), Same H H' → TabAt K H' v (tabOf M) → Q v H'
/-- an entry's changes -/
def spChsOf (K : PySem.W.Frag) : Sp := fun vs H Q _ => ∃ (v : V) (e : Ent), vs = [v] ∧ DV K H v (entD e) ∧ ∀ (u : V) (H' : Hp), Same H H' → DV K H' u (chsD (chsOf e)) → Q u H'
theorem same_put {H H' : Hp} {d : Addr} {o : HO} (s : Same H H') (n : H d = none) : Same H (upd H' d o) := fun a u e => by
  rw [upd_ne (ne_of_none e n)]
  exact s a u e
/-- changes done in a dict -/
def spDone (K : PySem.W.Frag) : Sp := fun vs H Q _ => ∃ (d : Addr) (M : List Rw) (v : V) (ks : List Int) (cs : List Ch), vs = [.ref d, v] ∧ H d = some (.dK (kvM M)) ∧ Mok ks M ∧ ks.length ≤ 60 ∧ (∀ c ∈ cs, Ch.In ks c) ∧ DV K H v (chsD cs) ∧ Q .non (upd H d (.dK (kvM (cs.foldl chM M))))
/-- each entry's changes -/
def spGroups (K : PySem.W.Frag) : Sp := fun vs H Q _ => ∃ (a : Addr) (xs : List V) (es : List Ent), vs = [.ref a] ∧ Sq K H a xs ∧ DVs K H xs (es.map entD) ∧ es.length ≤ 100000 ∧ ∀ (D : Addr) (ys : List V) (H' : Hp), H D = none → Same H H' → H' D = some (.lst ys) → DVs K H' ys (es.map fun e => chsD (chsOf e)) → Q (.ref D) H'
/-- what a log and a table must be -/
def LogIn (K : PySem.W.Frag) (H : Hp) (ks : List Int) (v : V) (rows : List Rw) (a : Addr) (xs : List V) (es : List Ent) : Prop :=
  TabAt K H v rows ∧ (∀ r ∈ rows, r.1 ∈ ks ∧ 0 ≤ r.2 ∧ r.2 ≤ 999) ∧ ks.length ≤ 60 ∧ H a = some (.lst xs) ∧ DVs K H xs (es.map entD) ∧ (∀ e ∈ es, Ent.In ks 100 e) ∧ es.length ≤ 10000
theorem LogIn.same {K : PySem.W.Frag} {H H' : Hp} {ks : List Int} {v : V} {rows : List Rw} {a : Addr} {xs : List V} {es : List Ent} (h : LogIn K H ks v rows a xs es) (s : Same H H') : LogIn K H' ks v rows a xs es :=
  ⟨h.1.same s, h.2.1, h.2.2.1, s _ _ h.2.2.2.1, DVs.same s h.2.2.2.2.1, h.2.2.2.2.2⟩
def spAt (K : PySem.W.Frag) : Sp := fun vs H Q _ => ∃ (ks : List Int) (v : V) (rows : List Rw) (a : Addr) (xs : List V) (es : List Ent) (n : Nat), vs = [v, .ref a, .int n] ∧ LogIn K H ks v rows a xs es ∧ n ≤ es.length ∧
  ∀ (u : V) (H' : Hp), Same H H' → TabAt K H' u (tabAt rows es n) → Q u H'
/-- tables -/
inductive Tabs (K : PySem.W.Frag) (H : Hp) : List V → List (List Rw) → Prop
  | nil : Tabs K H [] []
  | cons {v : V} {t : List Rw} {vs : List V} {ts : List (List Rw)} (h : TabAt K H v t) (r : Tabs K H vs ts) : Tabs K H (v :: vs) (t :: ts)
theorem Tabs.same {K : PySem.W.Frag} {H H' : Hp} (s : Same H H') : ∀ {vs : List V} {ts : List (List Rw)}, Tabs K H vs ts → Tabs K H' vs ts
  | _, _, .nil => .nil
  | _, _, .cons h r => .cons (h.same s) (Tabs.same s r)
theorem Tabs.gr {K : PySem.W.Frag} {b : Addr} {H H' : Hp} (hb : Bag H b) (g : Gr b H H') : ∀ {vs : List V} {ts : List (List Rw)}, Tabs K H vs ts → Tabs K H' vs ts
  | _, _, .nil => .nil
  | _, _, .cons h r => .cons (h.gr hb g) (Tabs.gr hb g r)
theorem Tabs.snoc {K : PySem.W.Frag} {H : Hp} {v : V} {t : List Rw} (h : TabAt K H v t) : ∀ {vs : List V} {ts : List (List Rw)}, Tabs K H vs ts → Tabs K H (vs ++ [v]) (ts ++ [t])
  | _, _, .nil => .cons h .nil
  | _, _, .cons x r => .cons x (Tabs.snoc h r)
theorem Tabs.length {K : PySem.W.Frag} {H : Hp} : ∀ {vs : List V} {ts : List (List Rw)}, Tabs K H vs ts → vs.length = ts.length
  | _, _, .nil => rfl
  | _, _, .cons _ r => congrArg (· + 1) (Tabs.length r)
theorem Tabs.get {K : PySem.W.Frag} {H : Hp} : ∀ {vs : List V} {ts : List (List Rw)} {i : Nat} {t : List Rw}, Tabs K H vs ts → ts[i]? = some t → ∃ v, vs[i]? = some v ∧ TabAt K H v t
  | _, _, 0, _, .cons (v := v) h _, e => by cases e; exact ⟨v, rfl, h⟩
  | _, _, i + 1, _, .cons _ r, e => by
    rw [List.getElem?_cons_succ] at e
    exact Tabs.get (i := i) r e
/-- what stands elsewhere is put -/
theorem TabAt.put {K : PySem.W.Frag} {H : Hp} {v : V} {t : List Rw} {d : Addr} {o u : HO} (h : TabAt K H v t) (e : H d = some o) (n1 : ∀ xs, o ≠ .tup xs) (n2 : ∀ ob xs, o ≠ .frz ob (.tup xs)) : TabAt K (upd H d u) v t := by
  obtain ⟨a, ps, rfl, ⟨ob, ea, r⟩, hp⟩ := h
  have ts : TSame H (upd H d u) := TSame.but e n1 n2 fun b x n e => by rw [upd_ne n]; exact e
  exact ⟨a, ps, rfl, ⟨ob, by rw [upd_ne (fun z => by rw [z, e] at ea; exact n2 ob _ (Option.some.inj ea))]; exact ea, r⟩, Paired.mapP hp fun _ _ h => sqT_ts ts h⟩
theorem Tabs.put {K : PySem.W.Frag} {H : Hp} {d : Addr} {o u : HO} (e : H d = some o) (n1 : ∀ xs, o ≠ .tup xs) (n2 : ∀ ob xs, o ≠ .frz ob (.tup xs)) : ∀ {vs : List V} {ts : List (List Rw)}, Tabs K H vs ts → Tabs K (upd H d u) vs ts
  | _, _, .nil => .nil
  | _, _, .cons h r => .cons (h.put e n1 n2) (Tabs.put e n1 n2 r)
def tabsAt (rows : List Rw) (es : List Ent) (n : Nat) : List (List Rw) := (List.range n).map (tabAt rows es)
/-- _law_tables, all_tables -/
def spTabs (K : PySem.W.Frag) : Sp := fun vs H Q _ => ∃ (ks : List Int) (v : V) (rows : List Rw) (a : Addr) (xs : List V) (es : List Ent), vs = [v, .ref a] ∧ LogIn K H ks v rows a xs es ∧
  ∀ (D : Addr) (ys : List V) (H' : Hp), H D = none → Same H H' → H' D = some (.lst ys) → Tabs K H' ys (tabsAt rows es (es.length + 1)) → Q (.ref D) H'
theorem tabAt_succ {rows : List Rw} {es : List Ent} {i : Nat} {e : Ent} (h : es[i]? = some e) : logM (normM rows) (es.take (i + 1)) = (chsOf e).foldl chM (logM (normM rows) (es.take i)) := by
  unfold logM
  rw [List.take_add_one, h, Option.toList_some, List.foldl_append]
  rfl
theorem chs_get {cs : List Ch} {i : Nat} {c : Ch} (h : cs[i]? = some c) (M : List Rw) : (cs.take (i + 1)).foldl chM M = chM ((cs.take i).foldl chM M) c := by
  rw [List.take_add_one, h, Option.toList_some, List.foldl_append]
  rfl
theorem upd_self {H : Hp} {d : Addr} {o : HO} (h : H d = some o) : upd H d o = H := by
  funext b
  by_cases e : b = d
  · rw [e, upd_same, h]
  · rw [upd_ne e]
theorem DV.group {K : PySem.W.Frag} {H : Hp} {v : V} {cs : List Ch} (h : DV K H v (entD (.group cs))) : ∃ p x, v = .ref p ∧ SqT K H p [.str "group", x] ∧ DV K H x (chsD cs) := by
  cases h with
  | tup hs ha =>
    cases ha with
    | cons h1 h2 =>
      cases h1
      cases h2 with
      | cons h3 h4 =>
        cases h4
        exact ⟨_, _, rfl, hs, h3⟩
theorem DV.mark {K : PySem.W.Frag} {H : Hp} {v : V} {lo : Bool} {l n : Int} (h : DV K H v (entD (.mark lo l n))) : ∃ p, v = .ref p ∧ SqT K H p [.str (mkS lo), .int l, .int n] := by
  cases h with
  | tup hs ha =>
    cases ha with
    | cons h1 h2 =>
      cases h1
      cases h2 with
      | cons h3 h4 =>
        cases h3
        cases h4 with
        | cons h5 h6 =>
          cases h5
          cases h6
          exact ⟨_, rfl, hs⟩
theorem DV.put {K : PySem.W.Frag} {H : Hp} {v : V} {k w : Int} (h : DV K H v (chD (.put k w))) : ∃ p, v = .ref p ∧ SqT K H p [.str "put", .int k, .int w] := by
  cases h with
  | tup hs ha =>
    cases ha with
    | cons h1 h2 =>
      cases h1
      cases h2 with
      | cons h3 h4 =>
        cases h3
        cases h4 with
        | cons h5 h6 =>
          cases h5
          cases h6
          exact ⟨_, rfl, hs⟩
theorem DV.drop {K : PySem.W.Frag} {H : Hp} {v : V} {k : Int} (h : DV K H v (chD (.drop k))) : ∃ p, v = .ref p ∧ SqT K H p [.str "drop", .int k] := by
  cases h with
  | tup hs ha =>
    cases ha with
    | cons h1 h2 =>
      cases h1
      cases h2 with
      | cons h3 h4 =>
        cases h3
        cases h4
        exact ⟨_, rfl, hs⟩
theorem DV.chs {K : PySem.W.Frag} {H : Hp} {v : V} {cs : List Ch} (h : DV K H v (chsD cs)) : ∃ p xs, v = .ref p ∧ SqT K H p xs ∧ DVs K H xs (cs.map chD) := by
  cases h with
  | tup hs ha => exact ⟨_, _, rfl, hs, ha⟩
theorem drop_put : ("drop" : Str) ≠ "put" := by decide +kernel
theorem mk_not (lo : Bool) : mkS lo ≠ "group" := by cases lo <;> (show (_ : Str) ≠ _; decide +kernel)
theorem drop_none {M : List Rw} {k : Int} (h : getM M k = none) : dropM M k = M := by
  unfold dropM
  refine List.filter_eq_self.mpr fun r hr => decide_eq_true fun e => ?_
  unfold getM at h
  cases z : M.find? fun r => decide (r.1 = k) with
  | none => exact List.find?_eq_none.mp z r hr (decide_eq_true e)
  | some y => rw [z] at h; cases h
/-- for x in a tuple, that stays a tuple whatever is done -/
def kTup (K : PySem.W.Frag) (R : It → Hp → Prop) : VK := fun x H1 => match x with
  | .ref a => ∃ xs, SqT K H1 a xs ∧ ∀ J G, Walk J xs.length G (YAt xs) → (∀ H, SqT K H a xs → G H) → R J H1
  | _ => False
def iTupG (K : PySem.W.Frag) (tl : TE) : TI := fun σ H R => tl σ H (kTup K R)
theorem piT_G {X : Cx} {tg l : Expr} {tl : TE} (hl : PE X l tl) : PI X tg l (iTupG X.K tl) := by
  refine ⟨fun pins s σ H R I h => ?_⟩
  refine thn (hl.run pins s σ H _ I h) fun v s1 ⟨x, H1, I1, r1, q1⟩ => ?_
  cases x with
  | ref a =>
    obtain ⟨xs, hq, q⟩ := q1
    cases r1
    obtain ⟨its, rv, p, hz⟩ := I1.tuple hq
    refine wpAny_pyIter_tuple (show s1.heap.IsTuple a its.toArray from p) ?_
    refine ⟨s1.heap.objs.size, [s1.heap.objs.size], _, _, H1, rfl, I1.kept (t' := s1.toks) fun b o e => Heap.get?_push_of_some _ e, turn_tuple a _, ⟨_, Heap.get?_push_size _ rfl, rfl, rfl⟩, fun b hb => ?_, q _ _ walk_tup fun H k => k⟩
    have e : b = s1.heap.objs.size := by simpa using hb
    subst e
    exact I1.fpOk (Nat.le_refl _) (I1.hok.fresh (Nat.le_refl _))
  | _ => exact (show False from q1).elim
theorem piT {X : Cx} {K : PySem.W.Frag} {tg l : Expr} {tl : TE} (hl : PE X l tl) (h : X.K = K := by rfl) : PI X tg l (iTupG K tl) := h ▸ piT_G hl
theorem for_tup {K : PySem.W.Frag} {H1 : Hp} {a : Addr} {g : TG} {tb : TS} {D : Ends} {σ : L2.St} (xs : List V) (hs : SqT K H1 a xs) (Pv : Nat → L2.St → Hp → Prop) (h0 : Pv 0 σ H1) (hk : ∀ k σ H, Pv k σ H → TSame H1 H)
    (step : ∀ (k : Nat) (x : V) (σ : L2.St) (H : Hp), k < xs.length → xs[k]? = some x → Pv k σ H → g x σ H fun σ2 H2 => tb { D with nx := Pv (k + 1), ct := Pv (k + 1), bk := D.nx } σ2 H2) (q : ∀ σ H, Pv xs.length σ H → D.nx σ H) :
    ∃ ys, SqT K H1 a ys ∧ ∀ J G, Walk J ys.length G (YAt ys) → (∀ H, SqT K H a ys → G H) → ∃ W : Nat → Nat → L2.St → Hp → Prop, (∃ m, W 0 m σ H1) ∧ ∀ i m σ H, W i m σ H →
      (J.stop i H ∧ D.nx σ H) ∨ (J.go i H ∧ ∃ N : L2.St → Hp → Prop, (∀ σ' H', N σ' H' → ∃ m', m' < m ∧ W (i + 1) m' σ' H') ∧ ∀ x H', J.yld i H x H' → g x σ H' fun σ2 H2 => tb { D with nx := N, ct := N, bk := D.nx } σ2 H2) := by
  refine ⟨xs, hs, fun J G w hG => ?_⟩
  refine for_it w Pv h0 (fun k σ H _ e => hG H (sqT_ts (hk k σ H e) hs)) (fun k x σ H H' lt e y => ?_) q
  obtain ⟨rfl, hx⟩ := y
  exact step k x σ _ lt hx e
theorem dK_ts {H : Hp} {d : Addr} {kvs : List (Key × V)} {o : HO} (h : H d = some (.dK kvs)) : TSame H (upd H d o) := TSame.but h (fun _ z => by cases z) (fun _ _ z => by cases z) fun a u n e => by rw [upd_ne n]; exact e
theorem TabAt.dK {K : PySem.W.Frag} {H : Hp} {v : V} {t : List Rw} {d : Addr} {kvs : List (Key × V)} {u : HO} (h : TabAt K H v t) (e : H d = some (.dK kvs)) : TabAt K (upd H d u) v t := h.put e (fun _ z => by cases z) (fun _ _ z => by cases z)
theorem Tabs.dK {K : PySem.W.Frag} {H : Hp} {vs : List V} {ts : List (List Rw)} {d : Addr} {kvs : List (Key × V)} {u : HO} (h : Tabs K H vs ts) (e : H d = some (.dK kvs)) : Tabs K (upd H d u) vs ts := h.put e (fun _ z => by cases z) (fun _ _ z => by cases z)
theorem Tabs.lst {K : PySem.W.Frag} {H : Hp} {vs : List V} {ts : List (List Rw)} {d : Addr} {xs : List V} {u : HO} (h : Tabs K H vs ts) (e : H d = some (.lst xs)) : Tabs K (upd H d u) vs ts := h.put e (fun _ z => by cases z) (fun _ _ z => by cases z)
theorem dict_of {K : PySem.W.Frag} {H : Hp} {v : V} {rows : List Rw} {Q : VK} (h : TabAt K H v rows) (q : ∀ d, H d = none → Q (.ref d) (upd H d (.dK (kvM (normM rows))))) : rDictT K [v] H Q := by
  obtain ⟨a, ps, rfl, hf, hp⟩ := h
  exact ⟨ps, kvM rows, hf, paired_kvs hp, fun d hd => by rw [merge_kvs]; exact q d hd⟩
end Tc

/-! enumerate(a tuple). -/
namespace Tc
open PySem PySem.Spec PyProof.Rows L2
theorem new_enumT (t : Addr) (c : Array Value) (m : Nat) (dx : Option Addr) (sx : Array (Option Value)) : Meets (Builtin.«enumerate.__new__» ⟨[.type "enumerate", .ref t], []⟩) (fun _ R s =>
      s.heap.get? t = some { cls := .type "tuple", dict := dx, data := .seq c m, slots := sx } ∧
      R (.ok (.ret (.ref (s.heap.push { cls := .type "tuple_iterator", data := .fields #[.ref t, .int 0 0] }).objs.size))) { s with heap := (s.heap.push { cls := .type "tuple_iterator", data := .fields #[.ref t, .int 0 0] }).push { cls := .type "enumerate", data := .fields #[.none, .bool false, .ref s.heap.objs.size, rawInt 0, .none, .none] } }) := .of_wp fun prog w A R s ⟨ht, q⟩ => by
    obtain ⟨hp, g, d, tk, os⟩ := s
    have hs := sub_enumerate
    have hT : Heap.IsTuple (Shared.heap ⟨hp, g, d, tk, os⟩) t c := ⟨_, ht, rfl, m, rfl⟩
    wp_walk using AutoSeq1.wpAny_loadPart' ht
    refine wpAny_stack_any fun st => wpAny_pure ?_
    split
    · rename_i z _ _ _ _ _
      cases (z == Value.type "enumerate") <;> (wp_walk using AutoSeq1.wpAny_loadPart' ht, wpAny_pyIter_tuple hT; exact ⟨_, rfl, q⟩)
    · wp_walk using AutoSeq1.wpAny_loadPart' ht, wpAny_pyIter_tuple hT
      exact ⟨_, rfl, q⟩
theorem call_enumT {prog : Program} {w : World} {A : Around} {E : Value → Shared → Prop} {s : Shared} {t : Addr} {c : Array Value} {Q : Value → Shared → Prop} (ht : IsTup s.heap t c)
    (h : ∀ h', IsEnum h' (s.heap.objs.size + 1) s.heap.objs.size 0 .none → h'.IsTupleIter s.heap.objs.size t 0 → (∀ b o, s.heap.get? b = some o → h'.get? b = some o) → Q (.ref (s.heap.objs.size + 1)) { s with heap := h' }) :
    wpAny (model prog w) A (call (.type "enumerate") [.ref t]) Q E s := by
  obtain ⟨⟨cl, dx, dt, sx⟩, e, hc, m, hd⟩ := ht
  have hc : cl = .type "tuple" := hc
  have hd : dt = .seq c m := hd
  subst hc hd
  refine callType_new F.called_enumerate (by decide) (F.typeCall_enumerate_1 _) (F.newCall_enumerate_1 _) (fun obj => F.args_object_init_2 obj _) F.entry_enumerate_new (new_enumT t c m dx sx) ⟨e, ?_⟩
  have hz : (s.heap.push { cls := .type "tuple_iterator", data := .fields #[.ref t, .int 0 0] }).objs.size = s.heap.objs.size + 1 := Heap.size_push ..
  show _ ∧ _
  rw [hz]
  have he : IsEnum ((s.heap.push { cls := .type "tuple_iterator", data := .fields #[.ref t, .int 0 0] }).push { cls := .type "enumerate", data := .fields #[.none, .bool false, .ref s.heap.objs.size, rawInt 0, .none, .none] }) (s.heap.objs.size + 1) s.heap.objs.size 0 .none := by
    have z := Heap.get?_push_size (s.heap.push { cls := .type "tuple_iterator", data := .fields #[.ref t, .int 0 0] }) (o := { cls := .type "enumerate", data := .fields #[.none, .bool false, .ref s.heap.objs.size, rawInt 0, .none, .none] }) rfl
    rw [hz] at z; exact z
  exact ⟨⟨_, he, rfl⟩, h _ he ⟨_, Heap.get?_push_of_some _ (Heap.get?_push_size s.heap (o := { cls := .type "tuple_iterator", data := .fields #[.ref t, .int 0 0] }) rfl), rfl, rfl⟩ fun b o x => Heap.get?_push_of_some _ (Heap.get?_push_of_some _ x)⟩
def IteT (K : PySem.W.Frag) (a : Addr) : It :=
  ⟨fun i H => ∃ (xs : List V) (x : V), SqT K H a xs ∧ xs[i]? = some x, fun i H v H' => ∃ T x, v = .ref T ∧ H T = none ∧ H' = upd H T (.tup [.int (i : Nat), x]) ∧ ∀ xs, SqT K H a xs → xs[i]? = some x, fun i H => ∃ xs : List V, SqT K H a xs ∧ xs.length ≤ i⟩
theorem tup_inj {X : Cx} {pins : List (Addr × Obj)} {σ : L2.St} {H : Hp} {s : Shared} {a : Addr} {xs ys : List V} (I : Inv X pins σ H s) (h : SqT X.K H a xs) (h' : SqT X.K H a ys) : xs = ys := by
  obtain ⟨i1, r1, ⟨o1, e1, _, n1, d1⟩, _⟩ := I.tuple h
  obtain ⟨i2, r2, ⟨o2, e2, _, n2, d2⟩, _⟩ := I.tuple h'
  have e := Option.some.inj (e1.symm.trans e2)
  subst e
  rw [d1] at d2
  injection d2 with d3 _
  have e3 : i1 = i2 := by simpa using d3
  subst e3
  exact Vals.inj r1 r2
theorem turn_enumT {P : Program} {w : World} {K : PySem.W.Frag} {elts : List Expr} {kk : Nat} {tpos : Pos} (a e it : Addr) :
    Turn P w K (.Tuple elts kk tpos) (IteT K a) [e, it] e (fun i h => (∃ old, IsEnum h e it ((i : Nat) : Int) old) ∧ h.IsTupleIter it a i ∧ e ≠ it ∧ a ≠ it ∧ a ≠ e) where
  mem := by simp
  obj := fun i h st b hb => by
    obtain ⟨⟨old, he⟩, ⟨o, ho, hc, hd⟩, _⟩ := st
    have z : b = e ∨ b = it := by simpa using hb
    rcases z with rfl | rfl
    · exact ⟨_, he, fun v q => nomatch q⟩
    · exact ⟨o, ho, fun v q => by rw [hd] at q; cases q⟩
  keep := fun i h h' st k => let ⟨⟨old, he⟩, hi, hne⟩ := st; ⟨⟨old, k e (by simp) _ he⟩, hi.at fun o q => k it (by simp) o q, hne⟩
  item := by
    intro X hP hw hK hc i pins s σ H E I hf st hg
    subst hP hw hK
    obtain ⟨⟨old, he⟩, hit, hne, hai, hae⟩ := st
    obtain ⟨xs, x, hq, hx⟩ := hg
    obtain ⟨its, rv, p, hz⟩ := I.tuple hq
    obtain ⟨u, hu, ru⟩ := rv.get hx
    have hel : e < s.heap.objs.size := Heap.lt_size he
    have hil : it < s.heap.objs.size := by obtain ⟨_, q, _⟩ := hit; exact Heap.lt_size q
    have hlt : i < its.toArray.size := by
      rw [List.size_toArray, ← rv.length]
      exact (List.getElem?_eq_some_iff.mp hx).1
    refine wpAny_pyNext_enum_itemD (PySem.Draws.tuple (A := X.A.in1) (I.ok.hd hc) it a hai its.toArray) he ⟨hit, p⟩ hlt hne (by simp; exact ⟨hne, fun z => hae z.symm⟩) fun y h' tk hy ho st' hT hsz hk => ?_
    have ey : y = u := by
      have z1 : its.toArray[i]? = some y := hy
      have z2 : its.toArray[i]? = some u := by simpa using hu
      rw [z1] at z2
      exact Option.some.inj z2
    subst ey
    refine ⟨_, rfl, wpAny_letOwnedTupleGo_enum (s := { s with heap := h', toks := tk + 1 }) ho fun h'' he' sb => ?_⟩
    have hT2 : h''.get? s.heap.objs.size = some { cls := .type "tuple", data := .seq #[.int i tk, y] } := (sb.2 _ (Nat.ne_of_gt hel)).trans hT
    have new : ObjOk X.prog X.w (upd H s.heap.objs.size (.tup [.int (i : Nat), x])) h'' s.heap.objs.size (.tup [.int (i : Nat), x]) :=
      ⟨by show 2 ≤ sizeLine; decide, [.int i tk, y], .cons ⟨_, rfl⟩ (.cons ru .nil), ⟨_, hT2, rfl, _, rfl⟩⟩
    have I1 : Inv X pins σ (upd H s.heap.objs.size (.tup [.int (i : Nat), x])) { s with heap := h'', toks := tk + 1 } :=
      I.turnedNew (ch := [e, it]) (fun b ob hb q => (sb.2 b (fun z => hb (by simp [z]))).trans (hk b ob (fun z => hb (by simp [z])) (fun z => hb (by simp [z])) q)) hf (Nat.le_refl _) new
    refine ⟨.ref s.heap.objs.size, _, I1, rfl, ⟨_, x, rfl, I.hok.fresh (Nat.le_refl _), rfl, fun ys hy => by rw [tup_inj I hy hq]; exact hx⟩, ⟨⟨y, ?_⟩, st'.1.at fun o q => (sb.2 it (Ne.symm hne)).trans q, hne, hai, hae⟩, fun b hb => ?_⟩
    · have e1 : ((i + 1 : Nat) : Int) = (i : Int) + 1 := by omega
      rw [e1]; exact he'
    · have hb' : b < s.heap.objs.size := by
        have z : b = e ∨ b = it := by simpa using hb
        rcases z with rfl | rfl
        · exact hel
        · exact hil
      rw [upd_ne (Nat.ne_of_lt hb')]
      exact (hf b hb).1
  done := by
    intro X hP hw hK hc i pins s σ H E I hf st hg
    subst hP hw hK
    obtain ⟨⟨old, he⟩, hit, hne, hai, hae⟩ := st
    obtain ⟨xs, hq, hx⟩ := hg
    obtain ⟨its, rv, p, hz⟩ := I.tuple hq
    obtain ⟨f0, f1, f2, f3, f4, f5⟩ := hf it (by simp)
    have hl := rv.length
    have D : Draws X.prog X.w X.A.in1 it [it, a] i (fun _ _ => False) (fun j h => j = i ∧ h.IsTupleIter it a i ∧ h.IsTuple a its.toArray) := {
      live := fun _ _ st => let ⟨o, ho, _⟩ := st.2.1; ⟨o, ho⟩
      frame := fun _ _ _ st hk => ⟨st.1, st.2.1.at fun o e => hk it (by simp) o e, st.2.2.at fun o e => hk a (by simp) o e⟩
      item := fun j s Q E hj st hQ => absurd st.1 (Nat.ne_of_lt hj)
      done := fun s Q E st hE => wpAny_nextOf_tuple_end (show X.A.in1.handled = none from I.ok.hd hc) st.2.1 st.2.2 (by simp; omega) hE }
    exact wpAny_pyNext_enum_endD D he ⟨rfl, hit, p⟩ fun h' eb => ⟨rfl, I.turned (t' := s.toks) (fun b o hb q => eb b o hb q) f0 f1 f3 f4 f5⟩
  self := fun A i s Q E st h => let ⟨⟨_, he⟩, _⟩ := st; wpAny_pyIter_enum he h
def kEnT (K : PySem.W.Frag) (R : It → Hp → Prop) : List V → Hp → Prop := fun vs H1 => match vs with
  | [.ref a] => ∃ xs, SqT K H1 a xs ∧ ∀ J G, Walk J xs.length G (YPair (fun i => some (.int (i : Nat))) (fun i => xs[i]?)) → (∀ H, SqT K H a xs → G H) → R J H1
  | _ => False
def iEnumT (K : PySem.W.Frag) (ta : TA) : TI := fun σ H R => ta σ H (kEnT K R)
theorem walk_enumT {K : PySem.W.Frag} {a : Addr} {xs : List V} : Walk (IteT K a) xs.length (fun H => SqT K H a xs) (YPair (fun i => some (.int (i : Nat))) (fun i => xs[i]?)) := by
  refine ⟨fun i _ hi q => ⟨xs, xs[i], q, by simp [hi]⟩, fun _ q => ⟨xs, q, Nat.le_refl _⟩, fun i H v H' _ q y => ?_⟩
  obtain ⟨T, x, h1, h2, h3, h4⟩ := y
  exact ⟨T, .int (i : Nat), x, h1, h2, h3, rfl, h4 xs q⟩
theorem pi_enumT {X : Cx} {e : Expr} {ta : TA} {p pos tpos : Pos} {elts : List Expr} {kk : Nat} (hg : Gl X "enumerate") (hm : X.mg "enumerate" = none) (ha : PA X [e] ta) (hs : starEach [e] X.env = [(false, eval e X.env)] := by rfl) :
    PI X (.Tuple elts kk tpos) (.Call (.Name "enumerate" p) [e] [] pos) (iEnumT X.K ta) := by
  refine ⟨fun pins s σ H R I h => ?_⟩
  refine Call_ (ld_blt I hg hm boot_enumerate (PyProof.Rows.callWith_type1 (thn (ha.run pos pins s σ H _ I h) fun us s1 ⟨vs, H1, I1, r1, q1⟩ => ?_) hs rfl))
  unfold kEnT at q1
  split at q1
  · rename_i a
    obtain ⟨xs, hq, q⟩ := q1
    cases r1 with
    | cons r rr =>
      cases rr
      cases r
      obtain ⟨its, rv, p', hz⟩ := I1.tuple hq
      have hal : a < s1.heap.objs.size := by obtain ⟨_, e, _⟩ := p'; exact Heap.lt_size e
      refine call_enumT p' fun h' he hit hk => wpAny_pyIter_enum he ?_
      have I2 : Inv X pins σ H1 { s1 with heap := h' } := I1.kept (t' := s1.toks) hk
      refine ⟨s1.heap.objs.size + 1, [s1.heap.objs.size + 1, s1.heap.objs.size], _, _, H1, rfl, I2, turn_enumT a (s1.heap.objs.size + 1) s1.heap.objs.size, ⟨⟨.none, he⟩, hit, Nat.succ_ne_self _, Nat.ne_of_lt hal, Nat.ne_of_lt (Nat.lt_succ_of_lt hal)⟩, fun b hb => ?_, q _ _ walk_enumT fun H k => k⟩
      have z : b = s1.heap.objs.size + 1 ∨ b = s1.heap.objs.size := by simpa using hb
      have hle : s1.heap.objs.size ≤ b := by
        rcases z with z | z
        · rw [z]; exact Nat.le_add_right _ _
        · rw [z]; exact Nat.le_refl _
      exact I1.fpOk hle (I1.hok.fresh hle)
  · exact q1.elim
theorem enumTK {X : Cx} {K : PySem.W.Frag} {e : Expr} {ta : TA} {p pos tpos : Pos} {elts : List Expr} {kk : Nat} (hg : Gl X "enumerate") (hm : X.mg "enumerate" = none) (ha : PA X [e] ta) (hs : starEach [e] X.env = [(false, eval e X.env)] := by rfl) (h : X.K = K := by rfl) :
    PI X (.Tuple elts kk tpos) (.Call (.Name "enumerate" p) [e] [] pos) (iEnumT K ta) := h ▸ pi_enumT hg hm ha hs
/-- for i, x in enumerate(a tuple) -/
theorem for_enT {K : PySem.W.Frag} {H1 : Hp} {a : Addr} {g : TG} {tb : TS} {D : Ends} {σ : L2.St} (xs : List V) (hs : SqT K H1 a xs) (Pv : Nat → L2.St → Hp → Prop) (h0 : Pv 0 σ H1) (hk : ∀ k σ H, Pv k σ H → TSame H1 H)
    (step : ∀ (k : Nat) (x : V) (T : Addr) (σ : L2.St) (H : Hp), k < xs.length → xs[k]? = some x → Pv k σ H → H T = none → g (.ref T) σ (upd H T (.tup [.int (k : Nat), x])) fun σ2 H2 => tb { D with nx := Pv (k + 1), ct := Pv (k + 1), bk := D.nx } σ2 H2) (q : ∀ σ H, Pv xs.length σ H → D.nx σ H) :
    ∃ ys, SqT K H1 a ys ∧ ∀ J G, Walk J ys.length G (YPair (fun i => some (.int (i : Nat))) (fun i => ys[i]?)) → (∀ H, SqT K H a ys → G H) → ∃ W : Nat → Nat → L2.St → Hp → Prop, (∃ m, W 0 m σ H1) ∧ ∀ i m σ H, W i m σ H →
      (J.stop i H ∧ D.nx σ H) ∨ (J.go i H ∧ ∃ N : L2.St → Hp → Prop, (∀ σ' H', N σ' H' → ∃ m', m' < m ∧ W (i + 1) m' σ' H') ∧ ∀ x H', J.yld i H x H' → g x σ H' fun σ2 H2 => tb { D with nx := N, ct := N, bk := D.nx } σ2 H2) := by
  refine ⟨xs, hs, fun J G w hG => ?_⟩
  refine for_it w Pv h0 (fun k σ H _ e => hG H (sqT_ts (hk k σ H e) hs)) (fun k x σ H H' lt e y => ?_) q
  obtain ⟨T, i, z, rfl, hT, rfl, hi, hz⟩ := y
  cases hi
  exact step k z T σ _ lt hz e hT
end Tc

/-! Readings. -/
namespace Tc
open PySem PySem.Spec PyProof.Rows L2
def hitR (f l : Int) (r : Rw) : Bool := decide (f ≤ r.1) && decide (r.1 < l)
def findM (t : List Rw) (f l : Int) : Option Rw := t.find? (hitR f l)
def stopM : List Nat → Option (List Rw)
  | [] => some []
  | _ :: _ => none
def readM (ts : List (List Rw)) (l : Int) : Int → List Nat → Option (List Rw)
  | _, [] => none
  | f, m :: ms => match findM (ts.getD m []) f l with
    | none => stopM ms
    | some r => (readM ts l (r.1 + 1) ms).map (r :: ·)
theorem readM_none {ts : List (List Rw)} {l f : Int} {m : Nat} {ms : List Nat} (h : findM (ts.getD m []) f l = none) (n : ms ≠ []) : readM ts l f (m :: ms) = none := by
  unfold readM
  rw [h]
  cases ms with
  | nil => exact absurd rfl n
  | cons => rfl
theorem readM_stop {ts : List (List Rw)} {l f : Int} {m : Nat} (h : findM (ts.getD m []) f l = none) : readM ts l f [m] = some [] := by
  unfold readM
  rw [h]
  rfl
theorem readM_some {ts : List (List Rw)} {l f : Int} {m : Nat} {ms : List Nat} {r : Rw} (h : findM (ts.getD m []) f l = some r) : readM ts l f (m :: ms) = (readM ts l (r.1 + 1) ms).map (r :: ·) := by
  conv => lhs; unfold readM
  rw [h]
def OptRow (K : PySem.W.Frag) (H : Hp) (u : V) : Option Rw → Prop
  | none => u = .non
  | some r => ∃ p, u = .ref p ∧ SqT K H p [.int r.1, .int r.2]
def OptRows (K : PySem.W.Frag) (H : Hp) (u : V) : Option (List Rw) → Prop
  | none => u = .non
  | some rs => DV K H u (tabD rs)
theorem paired_get {K : PySem.W.Frag} {H : Hp} : ∀ {ps : List Addr} {t : List Rw} {k : Nat} {x : V}, Paired (fun p (r : Rw) => SqT K H p [.int r.1, .int r.2]) ps t → (ps.map V.ref)[k]? = some x → ∃ p r, x = .ref p ∧ t[k]? = some r ∧ SqT K H p [.int r.1, .int r.2]
  | _, _, 0, x, .cons (a := p) (b := r) h _, e => by cases e; exact ⟨p, r, rfl, rfl, h⟩
  | _, _, k + 1, x, .cons _ t, e => by
    rw [List.map_cons, List.getElem?_cons_succ] at e
    exact paired_get (k := k) t e
theorem find_at {α : Type} {p : α → Bool} {t : List α} {k : Nat} {r : α} (h : (t.take k).find? p = none) (e : t[k]? = some r) (hp : p r = true) : t.find? p = some r := by
  obtain ⟨hk, e2⟩ := List.getElem?_eq_some_iff.mp e
  rw [← List.take_append_drop k t, List.find?_append, h, Option.none_or, List.drop_eq_getElem_cons hk, List.find?_cons_of_pos (by rw [e2]; exact hp), e2]
theorem find_not {α : Type} {p : α → Bool} {t : List α} {k : Nat} {r : α} (h : (t.take k).find? p = none) (e : t[k]? = some r) (hp : p r = false) : (t.take (k + 1)).find? p = none := by
  rw [List.take_add_one, e, List.find?_append, h, Option.none_or, Option.toList_some, List.find?_cons_of_neg (by rw [hp]; decide)]
  rfl
theorem filt_one {α β : Type} (p : β → Bool) : ∀ zs : List (α × β), match (zs.map (·.2)).find? p with
    | none => zs.filter (fun z => p z.2) = []
    | some r => ∃ x rest, zs.filter (fun z => p z.2) = (x, r) :: rest ∧ (x, r) ∈ zs
  | [] => rfl
  | z :: zs => by
    have ih := filt_one p zs
    rw [List.map_cons]
    cases h : p z.2 with
    | true =>
      rw [List.find?_cons_of_pos h]
      exact ⟨z.1, _, List.filter_cons_of_pos h, List.mem_cons_self⟩
    | false =>
      rw [List.find?_cons_of_neg (by rw [h]; decide), List.filter_cons_of_neg (by rw [h]; decide)]
      revert ih
      cases (zs.map (·.2)).find? p with
      | none => exact id
      | some r => exact fun ⟨x, rest, a, b⟩ => ⟨x, rest, a, List.mem_cons_of_mem _ b⟩
theorem cut_one (xs : List V) : cutV xs none (some 1) = xs.take 1 := by
  cases xs with
  | nil =>
    unfold cutV
    simp
  | cons x r => exact cut_lo (x :: r) 1 (by decide) (by rw [List.length_cons]; omega)
def spFound (K : PySem.W.Frag) : Sp := fun vs H Q _ => ∃ (v : V) (t : List Rw) (f l : Int), vs = [v, .int f, .int l] ∧ TabAt K H v t ∧ ∀ u, OptRow K H u (findM t f l) → Q u H
def spLFind (K : PySem.W.Frag) : Sp := fun vs H Q _ => ∃ (v : V) (t : List Rw) (f l : Int), vs = [v, .int f, .int l] ∧ TabAt K H v t ∧ t.length ≤ 1000 ∧ ∀ (D : Addr) (ys : List V) (H' : Hp), H D = none → Same H H' → H' D = some (.lst ys) →
  (match findM t f l with
    | none => ys = []
    | some r => ∃ p, ys = [.ref p] ∧ SqT K H' p [.int r.1, .int r.2]) → Q (.ref D) H'
theorem paired_zip {K : PySem.W.Frag} {H : Hp} : ∀ {ps : List Addr} {t : List Rw}, Paired (fun p (r : Rw) => SqT K H p [.int r.1, .int r.2]) ps t → ((ps.map V.ref).zip t).map (·.1) = ps.map V.ref ∧ ((ps.map V.ref).zip t).map (·.2) = t ∧ ∀ z ∈ (ps.map V.ref).zip t, ∃ p, z.1 = .ref p ∧ SqT K H p [.int z.2.1, .int z.2.2]
  | _, _, .nil => ⟨rfl, rfl, fun z h => by cases h⟩
  | _, _, .cons (a := p) h t => by
    obtain ⟨h1, h2, h3⟩ := paired_zip t
    refine ⟨congrArg (_ :: ·) h1, congrArg (_ :: ·) h2, fun z hz => ?_⟩
    rcases List.mem_cons.mp hz with rfl | hz
    · exact ⟨p, rfl, h⟩
    · exact h3 z hz
/-- read_by(table, log, stretch, moments) -/
def spRead (K : PySem.W.Frag) : Sp := fun vs H Q _ => ∃ (ks : List Int) (v : V) (rows : List Rw) (a : Addr) (xs : List V) (es : List Ent) (st mo : Addr) (f l : Int) (ms : List Nat), vs = [v, .ref a, .ref st, .ref mo] ∧ LogIn K H ks v rows a xs es ∧
  SqT K H st [.int f, .int l] ∧ SqT K H mo (ms.map fun (m : Nat) => V.int m) ∧ ms ≠ [] ∧ (∀ m ∈ ms, m ≤ es.length) ∧ ms.length ≤ 10000 ∧
  ∀ (u : V) (H' : Hp), Same H H' → OptRows K H' u (readM (tabsAt rows es (es.length + 1)) l f ms) → Q u H'
/-- _law_read(tables, stretch, times) -/
def spLRead (K : PySem.W.Frag) : Sp := fun vs H Q _ => ∃ (tb st mo : Addr) (ys : List V) (ts : List (List Rw)) (f l : Int) (ms : List Nat), vs = [.ref tb, .ref st, .ref mo] ∧ H tb = some (.lst ys) ∧ Tabs K H ys ts ∧ (∀ t ∈ ts, t.length ≤ 1000) ∧
  SqT K H st [.int f, .int l] ∧ SqT K H mo (ms.map fun (m : Nat) => V.int m) ∧ (∀ m ∈ ms, m < ts.length) ∧ ms.length ≤ 10000 ∧
  ∀ (u : V) (H' : Hp), Same H H' → OptRows K H' u (readM ts l f ms) → Q u H'
theorem find_mem {t : List Rw} {f l : Int} {r : Rw} (h : findM t f l = some r) : r ∈ t ∧ f ≤ r.1 ∧ r.1 < l := by
  have h1 := List.find?_some h
  have h2 := List.mem_of_find?_eq_some h
  have h1 : (decide (f ≤ r.1) && decide (r.1 < l)) = true := h1
  rw [Bool.and_eq_true, decide_eq_true_eq, decide_eq_true_eq] at h1
  exact ⟨h2, h1⟩
theorem tabs_get {K : PySem.W.Frag} {H : Hp} {ys : List V} {ts : List (List Rw)} {m : Nat} (h : Tabs K H ys ts) (lt : m < ts.length) : ∃ v, ys[m]? = some v ∧ TabAt K H v (ts.getD m []) := by
  have e : ts[m]? = some (ts.getD m []) := by rw [List.getD_eq_getElem?_getD, List.getElem?_eq_getElem lt]; rfl
  exact h.get e
theorem tabsAt_len (rows : List Rw) (es : List Ent) (n : Nat) : (tabsAt rows es n).length = n := by unfold tabsAt; rw [List.length_map, List.length_range]
theorem drop_at {ms : List Nat} {k m : Nat} (h : ms[k]? = some m) : ms.drop k = m :: ms.drop (k + 1) := by
  obtain ⟨hk, e⟩ := List.getElem?_eq_some_iff.mp h
  rw [List.drop_eq_getElem_cons hk, e]
theorem map_app {α : Type} (rs : List α) (r : α) (o : Option (List α)) : (o.map (r :: ·)).map (rs ++ ·) = o.map ((rs ++ [r]) ++ ·) := by
  cases o with
  | none => rfl
  | some x => simp
theorem dv_of_row {K : PySem.W.Frag} {H : Hp} {p : Addr} {r : Rw} (h : SqT K H p [.int r.1, .int r.2]) : DV K H (.ref p) (rowD r) := .tup h (.cons (.int _) (.cons (.int _) .nil))
theorem ts_base {H H' : Hp} {R : Addr} {xs : List V} (n : H R = none) (s : Same H H') : TSame (upd H R (.lst xs)) H' := fun a ys h => by
  rcases h with h | ⟨o, h⟩
  · by_cases e : a = R
    · rw [e, upd_same] at h; cases h
    · rw [upd_ne e] at h; exact .inl (s _ _ h)
  · by_cases e : a = R
    · rw [e, upd_same] at h; cases h
    · rw [upd_ne e] at h; exact .inr ⟨o, s _ _ h⟩
theorem eqv_one (d : PyData) : PyData.eqv (.list [d]) (.list []) = false := rfl
/-- _law_stretch(bag, keys) -/
def spStretch : Sp := fun vs H Q _ => ∃ (b p : Addr) (ks : List Int), vs = [.ref b, .ref p] ∧ Bag H b ∧ IntsAt b H p ks ∧ (∀ k ∈ ks, 0 ≤ k ∧ k ≤ 999) ∧ 0 < ks.length ∧ ks.length ≤ 1000 ∧
  ∀ (t : Addr) (f l : Int) (H' : Hp), H t = none → 0 ≤ f → f ≤ 999 → f < l → l ≤ 1000 → Gr b H H' → H' t = some (.tup [.int f, .int l]) → Q (.ref t) H'
/-- _law_rising(bag, low, high, many) -/
def spRising : Sp := fun vs H Q _ => ∃ (b : Addr) (lo hi : Int) (n : Nat), vs = [.ref b, .int lo, .int hi, .int n] ∧ Bag H b ∧ 0 ≤ lo ∧ lo ≤ hi ∧ hi ≤ 100000 ∧ n ≤ 10000 ∧
  ∀ (D : Addr) (ns : List Int) (H' : Hp), H D = none → ns.length = n → (∀ x ∈ ns, lo ≤ x ∧ x ≤ hi) → Gr b H H' → H' D = some (.lst (ns.map V.int)) → Q (.ref D) H'
/-- _law_real_reading(bag, tables, stretch, low, high) -/
def spReal (K : PySem.W.Frag) : Sp := fun vs H Q _ => ∃ (b tb st : Addr) (ys : List V) (ts : List (List Rw)) (f l : Int) (lo hi : Nat), vs = [.ref b, .ref tb, .ref st, .int lo, .int hi] ∧ Bag H b ∧ off b H tb = some (.lst ys) ∧ Tabs K H ys ts ∧ ts.length = hi + 1 ∧ (∀ t ∈ ts, t.length ≤ 1000) ∧ lo ≤ hi ∧ hi ≤ 1000 ∧
  SqT K H st [.int f, .int l] ∧ 0 ≤ f ∧ f ≤ 999 ∧ l ≤ 1000 ∧
  ∀ (t : Addr) (u : V) (mo : Addr) (rs : List Rw) (ms : List Nat) (H' : Hp), H t = none → Gr b H H' → H' t = some (.tup [u, .ref mo]) → DV K H' u (tabD rs) → H' mo = some (.tup (ms.map fun (m : Nat) => V.int m)) → readM ts l f ms = some rs → ms ≠ [] → (∀ m ∈ ms, lo ≤ m ∧ m ≤ hi) → ms.Pairwise (· ≤ ·) → ms.length ≤ 3000 → Q (.ref t) H'
theorem nat_of {i : Int} (h : 0 ≤ i) : ∃ m : Nat, i = m := ⟨i.toNat, by omega⟩
theorem map_nil {α : Type} (o : Option (List α)) : o.map (([] : List α) ++ ·) = o := by cases o <;> rfl
theorem Ent.In.mono {ks : List Int} {m n : Nat} {e : Ent} (h : e.In ks m) (hm : m ≤ n) : e.In ks n := by
  cases e with
  | group cs => exact ⟨h.1, Nat.le_trans h.2.1 hm, h.2.2⟩
  | mark => exact h
theorem LogIn.gr {K : PySem.W.Frag} {b : Addr} {H H' : Hp} {ks : List Int} {v : V} {rows : List Rw} {a : Addr} {xs : List V} {es : List Ent} (h : LogIn K H ks v rows a xs es) (hb : Bag H b) (n : a ≠ b) (g : Gr b H H') : LogIn K H' ks v rows a xs es :=
  ⟨h.1.gr hb g, h.2.1, h.2.2.1, g.2 _ _ n h.2.2.2.1, h.2.2.2.2.1.ts (g.ts hb) (noLs_ents es), h.2.2.2.2.2⟩
theorem eqv_rows : ∀ rs : List Rw, PyData.eqvAll (rs.map rowD) (rs.map rowD) = true
  | [] => rfl
  | r :: rs => by
    have ih := eqv_rows rs
    show (PyData.eqv (rowD r) (rowD r) && PyData.eqvAll (rs.map rowD) (rs.map rowD)) = true
    rw [ih, Bool.and_true]
    show ((r.1 == r.1) && ((r.2 == r.2) && true)) = true
    simp
theorem eqv_tab (rs : List Rw) : PyData.eqv (tabD rs) (tabD rs) = true := eqv_rows rs
theorem depth_rows : ∀ rs : List Rw, PyData.depthAll (rs.map rowD) ≤ 1
  | [] => Nat.zero_le _
  | r :: rs => by
    have ih := depth_rows rs
    show max (PyData.depth (rowD r)) (PyData.depthAll (rs.map rowD)) ≤ 1
    exact Nat.max_le.mpr ⟨Nat.le_refl 1, ih⟩
theorem depth_tab (rs : List Rw) : PyData.depth (tabD rs) ≤ 60 := by
  show PyData.depthAll (rs.map rowD) + 1 ≤ 60
  have := depth_rows rs
  omega
theorem cut_map (ms : List Nat) (lo hi : Option Int) : ∃ ms' : List Nat, cutV (ms.map fun (m : Nat) => V.int m) lo hi = (ms'.map fun (m : Nat) => V.int m) ∧ (∀ m ∈ ms', m ∈ ms) ∧ ms'.length ≤ ms.length := by
  unfold cutV
  refine ⟨(ms.drop (HT.sIx (ms.map fun (m : Nat) => V.int m).length 0 lo)).take (HT.sIx (ms.map fun (m : Nat) => V.int m).length (ms.map fun (m : Nat) => V.int m).length hi - HT.sIx (ms.map fun (m : Nat) => V.int m).length 0 lo), ?_, fun m hm => List.mem_of_mem_drop (List.mem_of_mem_take hm), ?_⟩
  · rw [List.map_take, List.map_drop]
  · rw [List.length_take, List.length_drop]; omega
theorem ints_nat : ∀ ns : List Int, (∀ x ∈ ns, 0 ≤ x) → ns.map V.int = (ns.map Int.toNat).map fun (m : Nat) => V.int m
  | [], _ => rfl
  | x :: ns, h => by
    have h0 := h x List.mem_cons_self
    rw [List.map_cons, List.map_cons, List.map_cons, ints_nat ns fun y hy => h y (List.mem_cons_of_mem _ hy)]
    show V.int x :: _ = V.int ((x.toNat : Nat) : Int) :: _
    rw [Int.toNat_of_nonneg h0]
/-- tuples of moments -/
def Tups (K : PySem.W.Frag) (n : Nat) (H : Hp) (acc : List V) : Prop := ∀ x ∈ acc, ∃ (q : Addr) (ms : List Nat), x = .ref q ∧ SqT K H q (ms.map fun (m : Nat) => V.int m) ∧ (∀ m ∈ ms, m ≤ n) ∧ ms.length ≤ 9000
theorem Tups.ts {K : PySem.W.Frag} {n : Nat} {H H' : Hp} {acc : List V} (h : Tups K n H acc) (t : TSame H H') : Tups K n H' acc := fun x hx =>
  let ⟨q, ms, e, hs, r⟩ := h x hx
  ⟨q, ms, e, sqT_ts t hs, r⟩
theorem DV.tab_ref {K : PySem.W.Frag} {H : Hp} {u : V} {rs : List Rw} (h : DV K H u (tabD rs)) : ∃ p, u = .ref p := by
  cases h with
  | tup => exact ⟨_, rfl⟩
theorem rows_in {ks : List Int} {rows : List Rw} (h : RowsIn ks rows) : ∀ r ∈ rows, r.1 ∈ ks ∧ 0 ≤ r.2 ∧ r.2 ≤ 999 := fun r hr => ⟨h.1.subset (List.mem_map_of_mem hr), h.2 r hr⟩
theorem dps_nats {K : PySem.W.Frag} {H : Hp} : ∀ ms : List Nat, DpAll K H (ms.map fun (m : Nat) => V.int m) (ms.map fun (m : Nat) => PyData.int m)
  | [] => .nil
  | m :: ms => .cons (.int _) (dps_nats ms)
theorem tabsAt_flen {ks : List Int} {rows : List Rw} {es : List Ent} {m n : Nat} (hr : ∀ r ∈ rows, r.1 ∈ ks ∧ 0 ≤ r.2 ∧ r.2 ≤ 999) (he : ∀ e ∈ es, Ent.In ks m e) (hk : ks.length ≤ 1000) : ∀ t ∈ tabsAt rows es n, t.length ≤ 1000 := fun t ht => by
  obtain ⟨i, _, rfl⟩ := List.mem_map.mp ht
  exact Nat.le_trans (tabOf_len ((Mok.norm hr).log fun e hh => he e (List.mem_of_mem_take hh))) hk
theorem sl_any {K : PySem.W.Frag} {H : Hp} {mo : Addr} {ms : List Nat} {lo hi : Option Int} {Q : VK} (h : SqT K H mo (ms.map fun (m : Nat) => V.int m))
    (q : ∀ (r : Addr) (ms' : List Nat) (H' : Hp), Same H H' → SqT K H' r (ms'.map fun (m : Nat) => V.int m) → (∀ m ∈ ms', m ∈ ms) → ms'.length ≤ ms.length → Q (.ref r) H') :
    (∃ xs, SqL K H mo xs ∧ ∀ q, H q = none → Q (.ref q) (upd H q (.lst (cutV xs lo hi)))) ∨ ∃ xs, SqT K H mo xs ∧ (cutV xs lo hi = xs → Q (.ref mo) H) ∧ ∀ q, H q = none → Q (.ref q) (upd H q (.tup (cutV xs lo hi))) := by
  obtain ⟨ms', e, hin, hl⟩ := cut_map ms lo hi
  refine Or.inr ⟨_, h, fun _ => q mo ms H (Same.refl H) h (fun _ h => h) (Nat.le_refl _), fun r nr => q r ms' _ (same_upd nr) ?_ hin hl⟩
  rw [e]
  exact .inl (.inl upd_same)
theorem add_any {K : PySem.W.Frag} {H : Hp} {a b : Addr} {m1 m2 : List Nat} {Q : VK} (h1 : SqT K H a (m1.map fun (m : Nat) => V.int m)) (h2 : SqT K H b (m2.map fun (m : Nat) => V.int m)) (ne : m1 ≠ []) (few : m1.length + m2.length ≤ 100000)
    (q : ∀ (r : Addr) (ms' : List Nat) (H' : Hp), Same H H' → SqT K H' r (ms'.map fun (m : Nat) => V.int m) → (∀ m ∈ ms', m ∈ m1 ∨ m ∈ m2) → ms'.length ≤ m1.length + m2.length → Q (.ref r) H') :
    rCat (.ref a) (.ref b) H Q ∨ rCatT K (.ref a) (.ref b) H Q := by
  refine Or.inr ⟨a, b, _, _, rfl, rfl, h1, h2, fun z => ne (List.map_eq_nil_iff.mp z), by rw [List.length_map, List.length_map]; exact line_le few, fun _ => q a m1 H (Same.refl H) h1 (fun m hm => .inl hm) (Nat.le_add_right _ _), fun _ r nr => q r (m1 ++ m2) _ (same_upd nr) ?_ (fun m hm => List.mem_append.mp hm) (by rw [List.length_append]; exact Nat.le_refl _)⟩
  rw [List.map_append]
  exact .inl (.inl upd_same)
/-- a slice as a thing that does not unfold -/
structure SlI (r : V → Option Int → Option Int → Hp → VK → Prop) (te : TE) (tl th : TO) (σ : L2.St) (H : Hp) (Q : VK) : Prop where
  h : tSl r te tl th σ H Q
theorem pe_sliceI {X : Cx} {e : Expr} {lo hi : Option Expr} {p2 pos : Pos} {te : TE} {tl th : TO} {r : V → Option Int → Option Int → Hp → VK → Prop} (hr : SlR X r) (he : PE X e te) (hl : PO X lo tl) (hu : PO X hi th) : PE X (.Subscript e (.Slice lo hi none p2) pos) (SlI r te tl th) :=
  pe_of (pe_slice hr he hl hu) fun _ _ _ q => q.h
theorem tSl_any {K : PySem.W.Frag} {i : Nat} {p1 p2 : TO} {lo hi : Option Int} {σ : L2.St} {H : Hp} {mo : Addr} {ms : List Nat} {Q : VK} (hσ : σ[i]? = some (some (.ref mo))) (h1 : ∀ R : Option Int → Hp → Prop, R lo H → p1 σ H R) (h2 : ∀ R : Option Int → Hp → Prop, R hi H → p2 σ H R)
    (h : SqT K H mo (ms.map fun (m : Nat) => V.int m)) (q : ∀ (r : Addr) (ms' : List Nat) (H' : Hp), Same H H' → SqT K H' r (ms'.map fun (m : Nat) => V.int m) → (∀ m ∈ ms', m ∈ ms) → ms'.length ≤ ms.length → Q (.ref r) H') :
    SlI (rSlG K) (tV i) p1 p2 σ H Q := by
  refine ⟨?_⟩
  unfold tSl tV
  rw [hσ]
  exact h1 _ (h2 _ (sl_any (Q := Q) h q))
end Tc

/-! The least moments, plain. -/
namespace Tc
/-- all rising rows of n places from lo to hi, in order -/
def riseC (hi : Nat) : Nat → Nat → List (List Nat)
  | 0, _ => [[]]
  | n + 1, lo => (List.range' lo (hi + 1 - lo)).flatMap fun m => (riseC hi n m).map (m :: ·)
/-- the same, as it is built -/
def riseS (hi lo : Nat) : Nat → List (List Nat)
  | 0 => [[]]
  | n + 1 => (riseS hi lo n).flatMap fun row => (List.range' (row.getLastD lo) (hi + 1 - row.getLastD lo)).map fun p => row ++ [p]
theorem riseC_snoc (hi : Nat) : ∀ (n lo : Nat), riseC hi (n + 1) lo = (riseC hi n lo).flatMap fun row => (List.range' (row.getLastD lo) (hi + 1 - row.getLastD lo)).map fun p => row ++ [p]
  | 0, lo => by
    show (List.range' lo (hi + 1 - lo)).flatMap (fun m => [[m]]) = [[]].flatMap _
    rw [List.flatMap_cons, List.flatMap_nil, List.append_nil]
    show _ = (List.range' lo (hi + 1 - lo)).map fun p => [p]
    generalize List.range' lo (hi + 1 - lo) = l
    induction l with
    | nil => rfl
    | cons x l ih =>
      rw [List.flatMap_cons, List.map_cons, ih]
      rfl
  | n + 1, lo => by
    have ih := riseC_snoc hi n
    conv => lhs; unfold riseC
    conv => rhs; unfold riseC
    rw [List.flatMap_assoc]
    congr 1
    funext m
    rw [ih m, List.map_flatMap, List.flatMap_map]
    congr 1
    funext row
    rw [List.map_map, List.getLastD_cons]
    rfl
theorem riseS_eq (hi lo : Nat) : ∀ n, riseS hi lo n = riseC hi n lo
  | 0 => rfl
  | n + 1 => by
    rw [riseC_snoc, ← riseS_eq hi lo n]
    rfl
theorem riseC_sub {hi : Nat} : ∀ {n lo lo' : Nat} {ms : List Nat}, ms ∈ riseC hi n lo' → lo ≤ lo' → ms ∈ riseC hi n lo
  | 0, _, _, _, h, _ => h
  | n + 1, lo, lo', ms, h, le => by
    obtain ⟨m, hm, h2⟩ := List.mem_flatMap.mp h
    refine List.mem_flatMap.mpr ⟨m, ?_, h2⟩
    rw [List.mem_range'_1] at hm ⊢
    omega
def firstM (ts : List (List Rw)) (l : Int) (hi lo : Nat) (f : Int) (o : Option Rw) : Option Nat := (List.range' lo (hi + 1 - lo)).find? fun m => decide (findM (ts.getD m []) f l = o)
def leastM (ts : List (List Rw)) (l : Int) (hi : Nat) : Nat → Int → List Rw → List Nat
  | lo, f, [] => (firstM ts l hi lo f none).toList
  | lo, f, r :: rs => match firstM ts l hi lo f (some r) with
    | none => []
    | some m => m :: leastM ts l hi m (r.1 + 1) rs
theorem read_one {ts : List (List Rw)} {l f : Int} {m : Nat} : readM ts l f [m] = some [] ↔ findM (ts.getD m []) f l = none := by
  constructor
  · intro h
    cases e : findM (ts.getD m []) f l with
    | none => rfl
    | some r => rw [readM_some e] at h; cases h
  · exact readM_stop
theorem read_more {ts : List (List Rw)} {l f : Int} {m : Nat} {ms : List Nat} {r : Rw} {rs : List Rw} : readM ts l f (m :: ms) = some (r :: rs) ↔ findM (ts.getD m []) f l = some r ∧ readM ts l (r.1 + 1) ms = some rs := by
  cases e : findM (ts.getD m []) f l with
  | none =>
    refine ⟨fun h => ?_, fun h => by cases h.1⟩
    cases ms with
    | nil => rw [readM_stop e] at h; cases h
    | cons x y => rw [readM_none e (by simp)] at h; cases h
  | some r' =>
    rw [readM_some e]
    constructor
    · intro h
      cases e2 : readM ts l (r'.1 + 1) ms with
      | none => rw [e2] at h; cases h
      | some z =>
        rw [e2] at h
        have h : r' :: z = r :: rs := Option.some.inj h
        injection h with h1 h2
        subst h1 h2
        exact ⟨rfl, e2⟩
    · rintro ⟨h1, h2⟩
      have h1 : r' = r := Option.some.inj h1
      subst h1
      rw [h2]; rfl
/-- what is found first, in order, of a flat list, where nothing stands ahead of m -/
theorem some_first {β : Type} {p : Nat → Bool} {g : Nat → Option β} : ∀ {l : List Nat}, (∀ m ∈ l, p m = false → g m = none) → match l.find? p with
    | none => l.findSome? g = none
    | some m => (g m = none → ∀ k ∈ l, m ≤ k → g k = none) → l.Pairwise (· < ·) → l.findSome? g = g m
  | [], _ => rfl
  | x :: l, h => by
    have ih := some_first (l := l) fun m hm => h m (List.mem_cons_of_mem _ hm)
    cases e : p x with
    | true =>
      rw [List.find?_cons_of_pos e]
      intro h2 pw
      rw [List.findSome?_cons]
      cases gx : g x with
      | some z => rfl
      | none =>
        refine List.findSome?_eq_none_iff.mpr fun k hk => h2 gx k (List.mem_cons_of_mem _ hk) ?_
        exact Nat.le_of_lt ((List.pairwise_cons.mp pw).1 k hk)
    | false =>
      rw [List.find?_cons_of_neg (by rw [e]; decide), List.findSome?_cons, h x List.mem_cons_self e]
      revert ih
      cases l.find? p with
      | none => exact id
      | some m => exact fun ih h2 pw => ih (fun z k hk => h2 z k (List.mem_cons_of_mem _ hk)) (List.pairwise_cons.mp pw).2
theorem least_is (ts : List (List Rw)) (l : Int) (hi : Nat) : ∀ (rows : List Rw) (lo : Nat) (f : Int), ((riseC hi (rows.length + 1) lo).find? fun ms => decide (readM ts l f ms = some rows)) = if (leastM ts l hi lo f rows).length > rows.length then some (leastM ts l hi lo f rows) else none
  | [], lo, f => by
    have e : riseC hi 1 lo = (List.range' lo (hi + 1 - lo)).map fun m => [m] := by
      rw [riseC_snoc]
      show [[]].flatMap _ = _
      rw [List.flatMap_cons, List.flatMap_nil, List.append_nil]
      rfl
    show (riseC hi 1 lo).find? _ = _
    rw [e, List.find?_map]
    have e2 : ((fun ms => decide (readM ts l f ms = some [])) ∘ fun m => [m]) = fun m => decide (findM (ts.getD m []) f l = none) := by
      funext m
      exact decide_eq_decide.mpr read_one
    rw [e2]
    show Option.map _ (firstM ts l hi lo f none) = if (firstM ts l hi lo f none).toList.length > 0 then some (firstM ts l hi lo f none).toList else none
    cases firstM ts l hi lo f none <;> rfl
  | r :: rs, lo, f => by
    have ih := least_is ts l hi rs
    show (riseC hi (rs.length + 1 + 1) lo).find? _ = _
    conv => lhs; unfold riseC
    rw [List.find?_flatMap]
    have eg : ∀ m, ((riseC hi (rs.length + 1) m).map (m :: ·)).find? (fun ms => decide (readM ts l f ms = some (r :: rs))) = if findM (ts.getD m []) f l = some r then (if (leastM ts l hi m (r.1 + 1) rs).length > rs.length then some (m :: leastM ts l hi m (r.1 + 1) rs) else none) else none := fun m => by
      rw [List.find?_map]
      by_cases c : findM (ts.getD m []) f l = some r
      · rw [if_pos c]
        have e2 : ((fun ms => decide (readM ts l f ms = some (r :: rs))) ∘ (m :: ·)) = fun ms => decide (readM ts l (r.1 + 1) ms = some rs) := by
          funext ms
          exact decide_eq_decide.mpr (read_more.trans ⟨fun h => h.2, fun h => ⟨c, h⟩⟩)
        rw [e2, ih m (r.1 + 1)]
        split <;> rfl
      · rw [if_neg c]
        have e2 : ((fun ms => decide (readM ts l f ms = some (r :: rs))) ∘ (m :: ·)) = fun _ => false := by
          funext ms
          exact decide_eq_false fun h => c (read_more.mp h).1
        rw [e2]
        simp
    rw [show (fun m => ((riseC hi (rs.length + 1) m).map (m :: ·)).find? (fun ms => decide (readM ts l f ms = some (r :: rs)))) = _ from funext eg]
    have sf := some_first (p := fun m => decide (findM (ts.getD m []) f l = some r)) (g := fun m => if findM (ts.getD m []) f l = some r then (if (leastM ts l hi m (r.1 + 1) rs).length > rs.length then some (m :: leastM ts l hi m (r.1 + 1) rs) else none) else none) (l := List.range' lo (hi + 1 - lo)) fun m _ h => if_neg (of_decide_eq_false h)
    show _ = if (leastM ts l hi lo f (r :: rs)).length > (r :: rs).length then _ else _
    have el : leastM ts l hi lo f (r :: rs) = match firstM ts l hi lo f (some r) with
      | none => []
      | some m => m :: leastM ts l hi m (r.1 + 1) rs := rfl
    rw [el]
    have ef : firstM ts l hi lo f (some r) = (List.range' lo (hi + 1 - lo)).find? fun m => decide (findM (ts.getD m []) f l = some r) := rfl
    rw [ef]
    revert sf
    cases e : (List.range' lo (hi + 1 - lo)).find? fun m => decide (findM (ts.getD m []) f l = some r) with
    | none =>
      intro sf
      rw [sf]
      rfl
    | some m =>
      intro sf
      have hm : findM (ts.getD m []) f l = some r := of_decide_eq_true (List.find?_some (p := fun m => decide (findM (ts.getD m []) f l = some r)) e)
      rw [sf ?_ ?_, if_pos hm]
      · show _ = if (m :: leastM ts l hi m (r.1 + 1) rs).length > (r :: rs).length then _ else _
        rw [List.length_cons, List.length_cons]
        by_cases c : (leastM ts l hi m (r.1 + 1) rs).length > rs.length
        · rw [if_pos c, if_pos (by omega)]
        · rw [if_neg c, if_neg (by omega)]
      · intro h k hk le
        rw [if_pos hm] at h
        by_cases ck : findM (ts.getD k []) f l = some r
        · rw [if_pos ck]
          have n1 : ¬ (leastM ts l hi m (r.1 + 1) rs).length > rs.length := fun c => by rw [if_pos c] at h; cases h
          have z1 := ih m (r.1 + 1)
          rw [if_neg n1] at z1
          have z2 := ih k (r.1 + 1)
          have z3 : ((riseC hi (rs.length + 1) k).find? fun ms => decide (readM ts l (r.1 + 1) ms = some rs)) = none := by
            rw [List.find?_eq_none] at z1 ⊢
            exact fun ms hms => z1 ms (riseC_sub hms le)
          rw [z3] at z2
          by_cases c : (leastM ts l hi k (r.1 + 1) rs).length > rs.length
          · rw [if_pos c] at z2; cases z2
          · rw [if_neg c]
        · rw [if_neg ck]
      · exact List.pairwise_lt_range'
end Tc

/-! The least moments: what the defs promise. -/
namespace Tc
open PySem PySem.Spec PyProof.Rows L2
/-- need_place(place, least, most), a place -/
def spNeed : Sp := fun vs H Q _ => ∃ p l m : Int, vs = [.int p, .int l, .int m] ∧ l ≤ p ∧ p ≤ m ∧ Q .non H
def optD : Option Rw → PyData
  | none => .none
  | some r => rowD r
theorem OptRow.dv {K : PySem.W.Frag} {H : Hp} {u : V} {o : Option Rw} (h : OptRow K H u o) : DV K H u (optD o) := by
  cases o with
  | none =>
    have h : u = .non := h
    subst h
    exact .non
  | some r =>
    obtain ⟨p, rfl, hp⟩ := h
    exact dv_of_row hp
theorem eqv_opt (a b : Option Rw) : PyData.eqv (optD a) (optD b) = decide (a = b) := by
  cases a with
  | none => cases b <;> rfl
  | some r =>
    cases b with
    | none => rfl
    | some z =>
      show ((r.1 == z.1) && ((r.2 == z.2) && true)) = _
      rw [Bool.and_true]
      obtain ⟨r1, r2⟩ := r
      obtain ⟨z1, z2⟩ := z
      by_cases h1 : r1 = z1 <;> by_cases h2 : r2 = z2 <;> simp [h1, h2]
theorem depth_opt (a : Option Rw) : PyData.depth (optD a) ≤ 60 := by
  cases a with
  | none => exact Nat.zero_le _
  | some r => show 1 ≤ 60; decide
/-- u == x, rows or None -/
theorem eq_opt {K : PySem.W.Frag} {H : Hp} {u x : V} {a b : Option Rw} {Q : VK} (hu : OptRow K H u a) (hx : OptRow K H x b) (q : Q (.bl (decide (a = b))) H) : rEqG K u x H Q := by
  have d1 := hu.dv.dp
  have d2 := hx.dv.dp
  rw [← eqv_opt] at q
  have z : rEqP K u x H Q := ⟨optD a, optD b, d1, d2, .inl (depth_opt a), q⟩
  cases a with
  | none =>
    have hu : u = .non := hu
    subst hu
    exact z
  | some r =>
    obtain ⟨p, rfl, _⟩ := hu
    exact z
/-- least_moments(table, log, bounds, stretch, rows) -/
def spLeast (K : PySem.W.Frag) : Sp := fun vs H Q _ => ∃ (ks : List Int) (v : V) (rows : List Rw) (a : Addr) (xs : List V) (es : List Ent) (bo st ro : Addr) (lo hi : Nat) (f l : Int) (rv : List V) (rs : List Rw), vs = [v, .ref a, .ref bo, .ref st, .ref ro] ∧ LogIn K H ks v rows a xs es ∧
  SqT K H bo [.int lo, .int hi] ∧ lo ≤ hi ∧ hi ≤ es.length ∧ SqT K H st [.int f, .int l] ∧ SqT K H ro rv ∧ DVs K H rv (rs.map rowD) ∧ rs.length ≤ 10000 ∧
  ∀ (D : Addr) (H' : Hp), H D = none → Same H H' → H' D = some (.lst ((leastM (tabsAt rows es (es.length + 1)) l hi lo f rs).map fun (m : Nat) => V.int m)) → Q (.ref D) H'
/-- what is left to be found: the rows, and the end -/
def leftM (ts : List (List Rw)) (l : Int) (hi lo : Nat) (f : Int) : List (Option Rw) → List Nat
  | [] => []
  | none :: _ => (firstM ts l hi lo f none).toList
  | some r :: os => match firstM ts l hi lo f (some r) with
    | none => []
    | some m => m :: leftM ts l hi m (r.1 + 1) os
theorem left_least (ts : List (List Rw)) (l : Int) (hi : Nat) : ∀ (rs : List Rw) (lo : Nat) (f : Int), leftM ts l hi lo f (rs.map some ++ [none]) = leastM ts l hi lo f rs
  | [], lo, f => rfl
  | r :: rs, lo, f => by
    show (match firstM ts l hi lo f (some r) with
      | none => []
      | some m => m :: leftM ts l hi m (r.1 + 1) (rs.map some ++ [none])) = match firstM ts l hi lo f (some r) with
      | none => []
      | some m => m :: leastM ts l hi m (r.1 + 1) rs
    cases firstM ts l hi lo f (some r) with
    | none => rfl
    | some m => exact congrArg (m :: ·) (left_least ts l hi rs m (r.1 + 1))
theorem first_in {ts : List (List Rw)} {l f : Int} {hi lo m : Nat} {o : Option Rw} (h : firstM ts l hi lo f o = some m) : lo ≤ m ∧ m ≤ hi := by
  have z := List.mem_of_find?_eq_some h
  rw [List.mem_range'_1] at z
  omega
theorem opt_get {K : PySem.W.Frag} {H : Hp} {rv : List V} {rs : List Rw} (h : DVs K H rv (rs.map rowD)) {k : Nat} {x : V} (e : (rv ++ [V.non])[k]? = some x) : ∃ o, (rs.map some ++ [none])[k]? = some o ∧ OptRow K H x o := by
  have lr : rv.length = rs.length := by rw [h.length, List.length_map]
  by_cases c : k < rv.length
  · rw [List.getElem?_append_left c] at e
    obtain ⟨d, e1, dv⟩ := h.get e
    rw [List.getElem?_map] at e1
    cases er : rs[k]? with
    | none => rw [er] at e1; cases e1
    | some r =>
      rw [er] at e1
      cases e1
      obtain ⟨p, ep, hp⟩ := DV.ints2 (k := r.1) (w := r.2) dv
      refine ⟨some r, ?_, p, ep, hp⟩
      rw [List.getElem?_append_left (by rw [List.length_map]; omega), List.getElem?_map, er]
      rfl
  · rw [List.getElem?_append_right (by omega)] at e
    have ek : k - rv.length = 0 := by
      have := (List.getElem?_eq_some_iff.mp e).1
      simp at this
      omega
    rw [ek] at e
    cases e
    refine ⟨none, ?_, rfl⟩
    rw [List.getElem?_append_right (by rw [List.length_map]; omega), List.length_map, show k - rs.length = 0 by omega]
    rfl
theorem none_last {rs : List Rw} {k : Nat} (h : (rs.map some ++ [none])[k]? = some (none : Option Rw)) : (rs.map some ++ [none]).drop (k + 1) = [] := by
  refine List.drop_eq_nil_of_le ?_
  rw [List.length_append, List.length_map, List.length_singleton]
  by_cases c : k < rs.length
  · rw [List.getElem?_append_left (by rw [List.length_map]; exact c), List.getElem?_map, List.getElem?_eq_getElem c] at h
    cases h
  · omega
theorem opt_drop {os : List (Option Rw)} {k : Nat} {o : Option Rw} (h : os[k]? = some o) : os.drop k = o :: os.drop (k + 1) := by
  obtain ⟨hk, e⟩ := List.getElem?_eq_some_iff.mp h
  rw [List.drop_eq_getElem_cons hk, e]
theorem first_head {ts : List (List Rw)} {l f : Int} {hi lo : Nat} {o : Option Rw} : ((List.range' lo (hi + 1 - lo)).filter fun m => decide (findM (ts.getD m []) f l = o)).head? = firstM ts l hi lo f o := List.head?_filter
theorem eqv_ints_nil (ms : List Nat) : PyData.eqv (.list (ms.map fun (m : Nat) => PyData.int m)) (.list []) = ms.isEmpty := by cases ms <;> rfl
theorem OptRow.same {K : PySem.W.Frag} {H H' : Hp} {u : V} {o : Option Rw} (s : Same H H') (h : OptRow K H u o) : OptRow K H' u o := by
  cases o with
  | none => exact h
  | some r =>
    obtain ⟨p, e, hp⟩ := h
    exact ⟨p, e, same_tup s hp⟩
def OptMs (K : PySem.W.Frag) (H : Hp) (u : V) : Option (List Nat) → Prop
  | none => u = .non
  | some ms => ∃ q, u = .ref q ∧ SqT K H q (ms.map fun (m : Nat) => V.int m)
/-- moments(table, log, low, high, stretch, rows) -/
def spMoments (K : PySem.W.Frag) : Sp := fun vs H Q _ => ∃ (ks : List Int) (v : V) (rows : List Rw) (a : Addr) (xs : List V) (es : List Ent) (st ro : Addr) (lo hi : Nat) (f l : Int) (rv : List V) (rs : List Rw), vs = [v, .ref a, .int lo, .int hi, .ref st, .ref ro] ∧ LogIn K H ks v rows a xs es ∧
  lo ≤ hi ∧ hi ≤ es.length ∧ SqT K H st [.int f, .int l] ∧ SqT K H ro rv ∧ DVs K H rv (rs.map rowD) ∧ rs.length ≤ 10000 ∧
  ∀ (u : V) (H' : Hp), Same H H' → OptMs K H' u (if (leastM (tabsAt rows es (es.length + 1)) l hi lo f rs).length > rs.length then some (leastM (tabsAt rows es (es.length + 1)) l hi lo f rs) else none) → Q u H'
/-- _law_all_rising(low, high, many) -/
def spRise (K : PySem.W.Frag) : Sp := fun vs H Q _ => ∃ (lo hi n : Nat), vs = [.int lo, .int hi, .int n] ∧ lo ≤ hi ∧ hi ≤ 5 ∧ n ≤ 4 ∧
  ∀ (D : Addr) (ps : List Addr) (H' : Hp), H D = none → Same H H' → H' D = some (.lst (ps.map V.ref)) → Paired (fun p (ms : List Nat) => SqT K H' p (ms.map fun (m : Nat) => V.int m)) ps (riseC hi n lo) → Q (.ref D) H'
theorem catAK {X : Cx} {K : PySem.W.Frag} (h : X.K = K := by rfl) : OpR X (binaryOp .Add) (rCatA K) := h ▸ op_catA
/-- rows of places -/
abbrev PR (K : PySem.W.Frag) (H : Hp) (ps : List Addr) (rs : List (List Nat)) : Prop := Paired (fun p (ms : List Nat) => SqT K H p (ms.map fun (m : Nat) => V.int m)) ps rs
theorem PR.same {K : PySem.W.Frag} {H H' : Hp} {ps : List Addr} {rs : List (List Nat)} (h : PR K H ps rs) (s : Same H H') : PR K H' ps rs := Paired.mapP h fun _ _ h => same_tup s h
theorem PR.ts {K : PySem.W.Frag} {H H' : Hp} {ps : List Addr} {rs : List (List Nat)} (h : PR K H ps rs) (s : TSame H H') : PR K H' ps rs := Paired.mapP h fun _ _ h => sqT_ts s h
theorem PR.app {K : PySem.W.Frag} {H : Hp} : ∀ {ps qs : List Addr} {rs ss : List (List Nat)}, PR K H ps rs → PR K H qs ss → PR K H (ps ++ qs) (rs ++ ss)
  | _, _, _, _, .nil, h => h
  | _, _, _, _, .cons a t, h => .cons a (PR.app t h)
theorem PR.get {K : PySem.W.Frag} {H : Hp} : ∀ {ps : List Addr} {rs : List (List Nat)} {k : Nat} {x : V}, PR K H ps rs → (ps.map V.ref)[k]? = some x → ∃ p ms, x = .ref p ∧ rs[k]? = some ms ∧ SqT K H p (ms.map fun (m : Nat) => V.int m)
  | _, _, 0, x, .cons (a := p) (b := r) h _, e => by cases e; exact ⟨p, r, rfl, rfl, h⟩
  | _, _, k + 1, x, .cons _ t, e => by
    rw [List.map_cons, List.getElem?_cons_succ] at e
    exact PR.get (k := k) t e
theorem riseC_in {hi : Nat} : ∀ {n lo : Nat} {ms : List Nat}, ms ∈ riseC hi n lo → lo ≤ hi → (∀ m ∈ ms, lo ≤ m ∧ m ≤ hi) ∧ ms.length = n
  | 0, lo, ms, h, _ => by
    have h : ms = [] := List.mem_singleton.mp h
    subst h
    exact ⟨(fun m hm => by cases hm), rfl⟩
  | n + 1, lo, ms, h, le => by
    obtain ⟨m, hm, h2⟩ := List.mem_flatMap.mp h
    obtain ⟨t, ht, rfl⟩ := List.mem_map.mp h2
    rw [List.mem_range'_1] at hm
    obtain ⟨i1, i2⟩ := riseC_in ht (by omega)
    refine ⟨fun x hx => ?_, by rw [List.length_cons, i2]⟩
    rcases List.mem_cons.mp hx with rfl | hx
    · omega
    · have := i1 x hx
      omega
theorem flat_len {α β : Type} (g : α → List β) (c : Nat) : ∀ l : List α, (∀ x ∈ l, (g x).length ≤ c) → (l.flatMap g).length ≤ l.length * c
  | [], _ => by simp
  | x :: l, h => by
    have ih := flat_len g c l fun y hy => h y (List.mem_cons_of_mem _ hy)
    have h0 := h x List.mem_cons_self
    rw [List.flatMap_cons, List.length_append, List.length_cons, Nat.succ_mul]
    omega
theorem riseC_len (hi : Nat) : ∀ n lo, (riseC hi n lo).length ≤ (hi + 1) ^ n
  | 0, _ => Nat.le_refl 1
  | n + 1, lo => by
    have h := flat_len (fun m => (riseC hi n m).map (m :: ·)) ((hi + 1) ^ n) (List.range' lo (hi + 1 - lo)) fun m _ => by rw [List.length_map]; exact riseC_len hi n m
    rw [List.length_range'] at h
    refine Nat.le_trans h ?_
    rw [Nat.pow_succ, Nat.mul_comm]
    exact Nat.mul_le_mul_left _ (by omega)
def growR (hi lo : Nat) (row : List Nat) : List (List Nat) := (List.range' (row.getLastD lo) (hi + 1 - row.getLastD lo)).map fun p => row ++ [p]
theorem last_in {hi lo : Nat} {ms : List Nat} (h : ∀ m ∈ ms, lo ≤ m ∧ m ≤ hi) (le : lo ≤ hi) : lo ≤ ms.getLastD lo ∧ ms.getLastD lo ≤ hi := by
  cases ms with
  | nil => exact ⟨Nat.le_refl _, le⟩
  | cons m ms =>
    have e : (m :: ms).getLastD lo = (m :: ms).getLast (by simp) := List.getLastD_eq_getLast? .. |>.trans (by rw [List.getLast?_eq_some_getLast (by simp)]; rfl)
    rw [e]
    exact h _ (List.getLast_mem _)
theorem at_last {m : Nat} {ms : List Nat} (lo : Nat) : atI ((m :: ms).map fun (m : Nat) => V.int m) (-1) = some (.int ((m :: ms).getLastD lo : Nat)) := by
  have e : ixN ((m :: ms).map fun (m : Nat) => V.int m).length (-1) = some ms.length := by
    unfold ixN
    rw [if_neg (by decide), if_pos (by rw [List.length_map, List.length_cons]; omega), List.length_map, List.length_cons]
    congr 1
    omega
  unfold atI
  rw [e, Option.bind_some, List.getElem?_map]
  have e2 : (m :: ms)[ms.length]? = some ((m :: ms).getLastD lo) := by
    rw [List.getLastD_eq_getLast?, List.getLast?_eq_getElem?]
    show (m :: ms)[ms.length]? = some (((m :: ms)[(m :: ms).length - 1]?).getD lo)
    rw [List.length_cons, Nat.add_sub_cancel, List.getElem?_eq_getElem (by rw [List.length_cons]; omega)]
    rfl
  rw [e2]
  rfl
/-- _law_other_rows(bag, rows) -/
def spOther (K : PySem.W.Frag) : Sp := fun vs H Q _ => ∃ (b ro : Addr) (rv : List V) (rs : List Rw), vs = [.ref b, .ref ro] ∧ Bag H b ∧ SqT K H ro rv ∧ DVs K H rv (rs.map rowD) ∧ rs.length ≤ 4000 ∧
  ∀ (t : Addr) (xs : List V) (rs' : List Rw) (H' : Hp), H t = none → Gr b H H' → H' t = some (.tup xs) → DVs K H' xs (rs'.map rowD) → rs'.length ≤ rs.length + 1 → Q (.ref t) H'
theorem DVs.rows_get {K : PySem.W.Frag} {H : Hp} {rv : List V} {rs : List Rw} (h : DVs K H rv (rs.map rowD)) {k : Nat} (lt : k < rs.length) : ∃ p r, rv[k]? = some (.ref p) ∧ rs[k]? = some r ∧ SqT K H p [.int r.1, .int r.2] := by
  have e : (rs.map rowD)[k]? = some (rowD rs[k]) := by rw [List.getElem?_map, List.getElem?_eq_getElem lt]; rfl
  obtain ⟨x, ex, dx⟩ := h.get' e
  obtain ⟨p, ep, hp⟩ := DV.ints2 (k := rs[k].1) (w := rs[k].2) dx
  subst ep
  exact ⟨p, rs[k], ex, List.getElem?_eq_getElem lt, hp⟩
theorem DVs.rows_take {K : PySem.W.Frag} {H : Hp} {rv : List V} {rs : List Rw} (n : Nat) (h : DVs K H rv (rs.map rowD)) : DVs K H (rv.take n) ((rs.take n).map rowD) := by rw [List.map_take]; exact h.take n
theorem DVs.rows_drop {K : PySem.W.Frag} {H : Hp} {rv : List V} {rs : List Rw} (n : Nat) (h : DVs K H rv (rs.map rowD)) : DVs K H (rv.drop n) ((rs.drop n).map rowD) := by rw [List.map_drop]; exact h.drop n
theorem DVs.rows_erase {K : PySem.W.Frag} {H : Hp} {rv : List V} {rs : List Rw} (n : Nat) (h : DVs K H rv (rs.map rowD)) : DVs K H (rv.eraseIdx n) ((rs.eraseIdx n).map rowD) := by
  rw [List.eraseIdx_eq_take_drop_succ, List.eraseIdx_eq_take_drop_succ, List.map_append]
  exact (h.rows_take n).append (h.rows_drop (n + 1))
theorem DVs.rows_set {K : PySem.W.Frag} {H : Hp} {rv : List V} {rs : List Rw} (n : Nat) {t : Addr} {r : Rw} (h : DVs K H rv (rs.map rowD)) (ht : SqT K H t [.int r.1, .int r.2]) : DVs K H (rv.set n (.ref t)) ((rs.set n r).map rowD) := by
  rw [List.map_set]
  exact h.set n (dv_of_row ht)
end Tc

/-! For the law of the least moments. -/
namespace Tc
open PySem PySem.Spec PyProof.Rows L2
theorem cut_three (xs : List V) : cutV xs none (some 3) = xs.take 3 := by
  unfold cutV
  rw [HT.sIx_none, show HT.sIx xs.length xs.length (some 3) = min 3 xs.length from HT.sIx_nat xs.length xs.length 3, List.drop_zero, Nat.sub_zero]
  by_cases h : 3 ≤ xs.length
  · rw [Nat.min_eq_left h]
  · rw [Nat.min_eq_right (by omega), List.take_of_length_le (Nat.le_refl _), List.take_of_length_le (by omega)]
theorem read_len {ts : List (List Rw)} {l : Int} : ∀ {ms : List Nat} {f : Int} {rs : List Rw}, readM ts l f ms = some rs → ms.length = rs.length + 1
  | [], f, rs, h => by cases h
  | m :: ms, f, [], h => by
    cases ms with
    | nil => rfl
    | cons x y =>
      cases e : findM (ts.getD m []) f l with
      | none => rw [readM_none e (by simp)] at h; cases h
      | some r =>
        rw [readM_some e] at h
        cases e2 : readM ts l (r.1 + 1) (x :: y) with
        | none => rw [e2] at h; cases h
        | some z => rw [e2] at h; cases h
  | m :: ms, f, r :: rs, h => by
    rw [List.length_cons, List.length_cons, read_len (read_more.mp h).2]
theorem eqv_rows2 : ∀ a b : List Rw, PyData.eqvAll (a.map rowD) (b.map rowD) = decide (a = b)
  | [], [] => rfl
  | [], y :: b => rfl
  | x :: a, [] => rfl
  | x :: a, y :: b => by
    have ih := eqv_rows2 a b
    have h := eqv_opt (some x) (some y)
    show (PyData.eqv (rowD x) (rowD y) && PyData.eqvAll (a.map rowD) (b.map rowD)) = _
    rw [ih, show PyData.eqv (rowD x) (rowD y) = decide (some x = some y) from h]
    by_cases e1 : x = y <;> by_cases e2 : a = b <;> simp [e1, e2]
def optRowsD : Option (List Rw) → PyData
  | none => .none
  | some rs => tabD rs
theorem eq_rows {K : PySem.W.Frag} {H : Hp} {u : V} {q : Addr} {a : Option (List Rw)} {rs : List Rw} {Q : VK} (hu : OptRows K H u a) (hx : DV K H (.ref q) (tabD rs)) (k : Q (.bl (decide (a = some rs))) H) : rEqG K u (.ref q) H Q := by
  cases a with
  | none =>
    have hu : u = .non := hu
    subst hu
    exact ⟨.none, tabD rs, .non, hx.dp, .inl (Nat.zero_le _), k⟩
  | some z =>
    obtain ⟨p, rfl⟩ := DV.tab_ref hu
    refine ⟨tabD z, tabD rs, DV.dp hu, hx.dp, .inl (depth_tab z), ?_⟩
    have e : PyData.eqv (tabD z) (tabD rs) = decide (some z = some rs) := by
      show PyData.eqvAll (z.map rowD) (rs.map rowD) = _
      rw [eqv_rows2]
      exact decide_eq_decide.mpr ⟨fun h => by rw [h], fun h => Option.some.inj h⟩
    rw [e]
    exact k
theorem eqv_nats : ∀ ms : List Nat, PyData.eqvAll (ms.map fun (m : Nat) => PyData.int m) (ms.map fun (m : Nat) => PyData.int m) = true
  | [] => rfl
  | m :: ms => by
    have ih := eqv_nats ms
    show (((m : Int) == (m : Int)) && PyData.eqvAll (ms.map fun (m : Nat) => PyData.int m) (ms.map fun (m : Nat) => PyData.int m)) = true
    rw [ih]
    simp
theorem depth_nats : ∀ ms : List Nat, PyData.depthAll (ms.map fun (m : Nat) => PyData.int m) = 0
  | [] => rfl
  | m :: ms => by
    have ih := depth_nats ms
    show max 0 (PyData.depthAll (ms.map fun (m : Nat) => PyData.int m)) = 0
    rw [ih]; rfl
/-- a tuple of rows -/
def TD (K : PySem.W.Frag) (H : Hp) (x : V) : Prop := ∃ (q : Addr) (xs : List V) (rs : List Rw), x = .ref q ∧ SqT K H q xs ∧ DVs K H xs (rs.map rowD) ∧ rs.length ≤ 4000
theorem TD.same {K : PySem.W.Frag} {H H' : Hp} {x : V} (h : TD K H x) (s : Same H H') : TD K H' x := let ⟨q, xs, rs, e, a, b, c⟩ := h; ⟨q, xs, rs, e, same_tup s a, b.same s, c⟩
theorem PR.zip {K : PySem.W.Frag} {H : Hp} : ∀ {ps : List Addr} {rs : List (List Nat)}, PR K H ps rs → ((ps.map V.ref).zip rs).map (·.1) = ps.map V.ref ∧ ((ps.map V.ref).zip rs).map (·.2) = rs ∧ ∀ z ∈ (ps.map V.ref).zip rs, ∃ p, z.1 = .ref p ∧ SqT K H p (z.2.map fun (m : Nat) => V.int m)
  | _, _, .nil => ⟨rfl, rfl, fun z h => by cases h⟩
  | _, _, .cons (a := p) h t => by
    obtain ⟨h1, h2, h3⟩ := PR.zip t
    refine ⟨congrArg (_ :: ·) h1, congrArg (_ :: ·) h2, fun z hz => ?_⟩
    rcases List.mem_cons.mp hz with rfl | hz
    · exact ⟨p, rfl, h⟩
    · exact h3 z hz
end Tc

namespace K07
open PySem PySem.Spec PyProof.Rows L2 Tc
def topS (i : Nat) : Stmt := PySem.Challenge.pw_tidecopy_k07_least_moments.main.body.getD i (.Pass ⟨0, 0, 0, 0⟩)
abbrev s_NoPlace___init__ : Stmt := inClass (topS 3) 0
abbrev s_changes_of : Stmt := topS 5
abbrev s_put_change : Stmt := topS 6
abbrev s_pairs_of : Stmt := topS 7
abbrev s_need_place : Stmt := topS 8
abbrev s_all_tables : Stmt := topS 9
abbrev s_found_at : Stmt := topS 11
abbrev s_least_moments : Stmt := topS 12
abbrev s_moments : Stmt := topS 13
abbrev s__law_bag : Stmt := topS 15
abbrev s__law_take : Stmt := topS 16
abbrev s__law_of : Stmt := topS 17
abbrev s__law_keys : Stmt := topS 18
abbrev s__law_table : Stmt := topS 19
abbrev s__law_changes : Stmt := topS 20
abbrev s__law_entry : Stmt := topS 21
abbrev s__law_log : Stmt := topS 22
abbrev s__law_done : Stmt := topS 23
abbrev s__law_pairs : Stmt := topS 24
abbrev s__law_groups : Stmt := topS 25
abbrev s__law_at : Stmt := topS 26
abbrev s__law_find : Stmt := topS 27
abbrev s__law_read : Stmt := topS 28
abbrev s__law_tables : Stmt := topS 29
abbrev s__law_stretch : Stmt := topS 30
abbrev s__law_real_reading : Stmt := topS 31
abbrev s__law_other_rows : Stmt := topS 32
abbrev s__law_all_rising : Stmt := topS 33
abbrev s_law : Stmt := topS 34
theorem sc_NoPlace___init__ : FnScope ["self", "at"] ["self", "at"] (defScope s_NoPlace___init__) := ⟨rfl, rfl, rfl, by decide +kernel, rfl, by decide +kernel, by decide +kernel⟩
theorem sc_changes_of : FnScope ["entry"] ["entry"] (defScope s_changes_of) := ⟨rfl, rfl, rfl, by decide +kernel, rfl, by decide +kernel, by decide +kernel⟩
theorem sc_put_change : FnScope ["rows", "change"] ["rows", "change"] (defScope s_put_change) := ⟨rfl, rfl, rfl, by decide +kernel, rfl, by decide +kernel, by decide +kernel⟩
theorem sc_pairs_of : FnScope ["rows", "key"] ["rows"] (defScope s_pairs_of) := ⟨rfl, rfl, rfl, by decide +kernel, rfl, by decide +kernel, by decide +kernel⟩
theorem sc_need_place : FnScope ["place", "least", "most"] ["place", "least", "most"] (defScope s_need_place) := ⟨rfl, rfl, rfl, by decide +kernel, rfl, by decide +kernel, by decide +kernel⟩
theorem sc_all_tables : FnScope ["table", "log", "rows", "found", "entry", "change"] ["table", "log"] (defScope s_all_tables) := ⟨rfl, rfl, rfl, by decide +kernel, rfl, by decide +kernel, by decide +kernel⟩
theorem sc_found_at : FnScope ["rows", "first", "last", "pair"] ["rows", "first", "last"] (defScope s_found_at) := ⟨rfl, rfl, rfl, by decide +kernel, rfl, by decide +kernel, by decide +kernel⟩
theorem sc_least_moments : FnScope ["table", "log", "bounds", "stretch", "rows", "low", "high", "tables", "first", "last", "moments", "row", "some", "at"] ["table", "log", "bounds", "stretch", "rows"] (defScope s_least_moments) := ⟨rfl, rfl, rfl, by decide +kernel, rfl, by decide +kernel, by decide +kernel⟩
theorem sc_moments : FnScope ["table", "log", "low", "high", "stretch", "rows", "found"] ["table", "log", "low", "high", "stretch", "rows"] (defScope s_moments) := ⟨rfl, rfl, rfl, by decide +kernel, rfl, by decide +kernel, by decide +kernel⟩
theorem sc__law_bag : FnScope ["script", "k", "cell"] ["script", "k"] (defScope s__law_bag) := ⟨rfl, rfl, rfl, by decide +kernel, rfl, by decide +kernel, by decide +kernel⟩
theorem sc__law_take : FnScope ["bag", "many", "found"] ["bag", "many"] (defScope s__law_take) := ⟨rfl, rfl, rfl, by decide +kernel, rfl, by decide +kernel, by decide +kernel⟩
theorem sc__law_of : FnScope ["bag", "some"] ["bag", "some"] (defScope s__law_of) := ⟨rfl, rfl, rfl, by decide +kernel, rfl, by decide +kernel, by decide +kernel⟩
theorem sc__law_keys : FnScope ["bag", "step", "first", "at"] ["bag"] (defScope s__law_keys) := ⟨rfl, rfl, rfl, by decide +kernel, rfl, by decide +kernel, by decide +kernel⟩
theorem sc__law_table : FnScope ["bag", "keys", "key"] ["bag", "keys"] (defScope s__law_table) := ⟨rfl, rfl, rfl, by decide +kernel, rfl, by decide +kernel, by decide +kernel⟩
theorem sc__law_changes : FnScope ["bag", "keys", "most", "found", "turn", "key"] ["bag", "keys", "most"] (defScope s__law_changes) := ⟨rfl, rfl, rfl, by decide +kernel, rfl, by decide +kernel, by decide +kernel⟩
theorem sc__law_entry : FnScope ["bag", "keys"] ["bag", "keys"] (defScope s__law_entry) := ⟨rfl, rfl, rfl, by decide +kernel, rfl, by decide +kernel, by decide +kernel⟩
theorem sc__law_log : FnScope ["bag", "keys", "most", "turn"] ["bag", "keys", "most"] (defScope s__law_log) := ⟨rfl, rfl, rfl, by decide +kernel, rfl, by decide +kernel, by decide +kernel⟩
theorem sc__law_done : FnScope ["rows", "changes", "change"] ["rows", "changes"] (defScope s__law_done) := ⟨rfl, rfl, rfl, by decide +kernel, rfl, by decide +kernel, by decide +kernel⟩
theorem sc__law_pairs : FnScope ["rows", "key"] ["rows"] (defScope s__law_pairs) := ⟨rfl, rfl, rfl, by decide +kernel, rfl, by decide +kernel, by decide +kernel⟩
theorem sc__law_groups : FnScope ["log", "entry"] ["log"] (defScope s__law_groups) := ⟨rfl, rfl, rfl, by decide +kernel, rfl, by decide +kernel, by decide +kernel⟩
theorem sc__law_at : FnScope ["table", "log", "place", "rows", "changes"] ["table", "log", "place"] (defScope s__law_at) := ⟨rfl, rfl, rfl, by decide +kernel, rfl, by decide +kernel, by decide +kernel⟩
theorem sc__law_find : FnScope ["rows", "first", "last", "pair"] ["rows", "first", "last"] (defScope s__law_find) := ⟨rfl, rfl, rfl, by decide +kernel, rfl, by decide +kernel, by decide +kernel⟩
theorem sc__law_read : FnScope ["tables", "stretch", "times", "first", "last", "rows", "at", "moment", "found"] ["tables", "stretch", "times"] (defScope s__law_read) := ⟨rfl, rfl, rfl, by decide +kernel, rfl, by decide +kernel, by decide +kernel⟩
theorem sc__law_tables : FnScope ["table", "log", "place"] ["table", "log"] (defScope s__law_tables) := ⟨rfl, rfl, rfl, by decide +kernel, rfl, by decide +kernel, by decide +kernel⟩
theorem sc__law_stretch : FnScope ["bag", "keys", "first", "wide"] ["bag", "keys"] (defScope s__law_stretch) := ⟨rfl, rfl, rfl, by decide +kernel, rfl, by decide +kernel, by decide +kernel⟩
theorem sc__law_real_reading : FnScope ["bag", "tables", "stretch", "low", "high", "first", "last", "rows", "times", "at", "turn", "found"] ["bag", "tables", "stretch", "low", "high"] (defScope s__law_real_reading) := ⟨rfl, rfl, rfl, by decide +kernel, rfl, by decide +kernel, by decide +kernel⟩
theorem sc__law_other_rows : FnScope ["bag", "rows", "found", "at", "way", "key", "worth"] ["bag", "rows"] (defScope s__law_other_rows) := ⟨rfl, rfl, rfl, by decide +kernel, rfl, by decide +kernel, by decide +kernel⟩
theorem sc__law_all_rising : FnScope ["low", "high", "many", "found", "turn", "new", "row", "least", "place"] ["low", "high", "many"] (defScope s__law_all_rising) := ⟨rfl, rfl, rfl, by decide +kernel, rfl, by decide +kernel, by decide +kernel⟩
theorem sc_law : FnScope ["script", "k", "bag", "keys", "table", "log", "tables", "stretch", "low", "rows", "times", "some", "one", "least", "most", "all_ones", "due", "found", "row"] ["script"] (defScope s_law) := ⟨rfl, rfl, rfl, by decide +kernel, rfl, by decide +kernel, by decide +kernel⟩
structure Txt (K : PySem.W.Frag) (mg : Str → Option Value) where
  f_changes_of : Addr
  fd_changes_of : FuncData
  F_changes_of : Fun K "changes_of" "changes_of" s_changes_of f_changes_of fd_changes_of
  b_changes_of : Binds K fd_changes_of ["entry"] []
  g_changes_of : mg "changes_of" = some (.ref f_changes_of)
  f_put_change : Addr
  fd_put_change : FuncData
  F_put_change : Fun K "put_change" "put_change" s_put_change f_put_change fd_put_change
  b_put_change : Binds K fd_put_change ["rows", "change"] []
  g_put_change : mg "put_change" = some (.ref f_put_change)
  f_pairs_of : Addr
  fd_pairs_of : FuncData
  F_pairs_of : Fun K "pairs_of" "pairs_of" s_pairs_of f_pairs_of fd_pairs_of
  b_pairs_of : Binds K fd_pairs_of ["rows"] []
  g_pairs_of : mg "pairs_of" = some (.ref f_pairs_of)
  f_need_place : Addr
  fd_need_place : FuncData
  F_need_place : Fun K "need_place" "need_place" s_need_place f_need_place fd_need_place
  b_need_place : Binds K fd_need_place ["place", "least", "most"] []
  g_need_place : mg "need_place" = some (.ref f_need_place)
  f_all_tables : Addr
  fd_all_tables : FuncData
  F_all_tables : Fun K "all_tables" "all_tables" s_all_tables f_all_tables fd_all_tables
  b_all_tables : Binds K fd_all_tables ["table", "log"] []
  g_all_tables : mg "all_tables" = some (.ref f_all_tables)
  f_found_at : Addr
  fd_found_at : FuncData
  F_found_at : Fun K "found_at" "found_at" s_found_at f_found_at fd_found_at
  b_found_at : Binds K fd_found_at ["rows", "first", "last"] []
  g_found_at : mg "found_at" = some (.ref f_found_at)
  f_least_moments : Addr
  fd_least_moments : FuncData
  F_least_moments : Fun K "least_moments" "least_moments" s_least_moments f_least_moments fd_least_moments
  b_least_moments : Binds K fd_least_moments ["table", "log", "bounds", "stretch", "rows"] []
  g_least_moments : mg "least_moments" = some (.ref f_least_moments)
  f_moments : Addr
  fd_moments : FuncData
  F_moments : Fun K "moments" "moments" s_moments f_moments fd_moments
  b_moments : Binds K fd_moments ["table", "log", "low", "high", "stretch", "rows"] []
  g_moments : mg "moments" = some (.ref f_moments)
  f__law_bag : Addr
  fd__law_bag : FuncData
  F__law_bag : Fun K "_law_bag" "_law_bag" s__law_bag f__law_bag fd__law_bag
  b__law_bag : Binds K fd__law_bag ["script", "k"] []
  g__law_bag : mg "_law_bag" = some (.ref f__law_bag)
  f__law_take : Addr
  fd__law_take : FuncData
  F__law_take : Fun K "_law_take" "_law_take" s__law_take f__law_take fd__law_take
  b__law_take : Binds K fd__law_take ["bag", "many"] []
  g__law_take : mg "_law_take" = some (.ref f__law_take)
  f__law_of : Addr
  fd__law_of : FuncData
  F__law_of : Fun K "_law_of" "_law_of" s__law_of f__law_of fd__law_of
  b__law_of : Binds K fd__law_of ["bag", "some"] []
  g__law_of : mg "_law_of" = some (.ref f__law_of)
  f__law_keys : Addr
  fd__law_keys : FuncData
  F__law_keys : Fun K "_law_keys" "_law_keys" s__law_keys f__law_keys fd__law_keys
  b__law_keys : Binds K fd__law_keys ["bag"] []
  g__law_keys : mg "_law_keys" = some (.ref f__law_keys)
  f__law_table : Addr
  fd__law_table : FuncData
  F__law_table : Fun K "_law_table" "_law_table" s__law_table f__law_table fd__law_table
  b__law_table : Binds K fd__law_table ["bag", "keys"] []
  g__law_table : mg "_law_table" = some (.ref f__law_table)
  f__law_changes : Addr
  fd__law_changes : FuncData
  F__law_changes : Fun K "_law_changes" "_law_changes" s__law_changes f__law_changes fd__law_changes
  b__law_changes : Binds K fd__law_changes ["bag", "keys", "most"] []
  g__law_changes : mg "_law_changes" = some (.ref f__law_changes)
  f__law_entry : Addr
  fd__law_entry : FuncData
  F__law_entry : Fun K "_law_entry" "_law_entry" s__law_entry f__law_entry fd__law_entry
  b__law_entry : Binds K fd__law_entry ["bag", "keys"] []
  g__law_entry : mg "_law_entry" = some (.ref f__law_entry)
  f__law_log : Addr
  fd__law_log : FuncData
  F__law_log : Fun K "_law_log" "_law_log" s__law_log f__law_log fd__law_log
  b__law_log : Binds K fd__law_log ["bag", "keys", "most"] []
  g__law_log : mg "_law_log" = some (.ref f__law_log)
  f__law_done : Addr
  fd__law_done : FuncData
  F__law_done : Fun K "_law_done" "_law_done" s__law_done f__law_done fd__law_done
  b__law_done : Binds K fd__law_done ["rows", "changes"] []
  g__law_done : mg "_law_done" = some (.ref f__law_done)
  f__law_pairs : Addr
  fd__law_pairs : FuncData
  F__law_pairs : Fun K "_law_pairs" "_law_pairs" s__law_pairs f__law_pairs fd__law_pairs
  b__law_pairs : Binds K fd__law_pairs ["rows"] []
  g__law_pairs : mg "_law_pairs" = some (.ref f__law_pairs)
  f__law_groups : Addr
  fd__law_groups : FuncData
  F__law_groups : Fun K "_law_groups" "_law_groups" s__law_groups f__law_groups fd__law_groups
  b__law_groups : Binds K fd__law_groups ["log"] []
  g__law_groups : mg "_law_groups" = some (.ref f__law_groups)
  f__law_at : Addr
  fd__law_at : FuncData
  F__law_at : Fun K "_law_at" "_law_at" s__law_at f__law_at fd__law_at
  b__law_at : Binds K fd__law_at ["table", "log", "place"] []
  g__law_at : mg "_law_at" = some (.ref f__law_at)
  f__law_find : Addr
  fd__law_find : FuncData
  F__law_find : Fun K "_law_find" "_law_find" s__law_find f__law_find fd__law_find
  b__law_find : Binds K fd__law_find ["rows", "first", "last"] []
  g__law_find : mg "_law_find" = some (.ref f__law_find)
  f__law_read : Addr
  fd__law_read : FuncData
  F__law_read : Fun K "_law_read" "_law_read" s__law_read f__law_read fd__law_read
  b__law_read : Binds K fd__law_read ["tables", "stretch", "times"] []
  g__law_read : mg "_law_read" = some (.ref f__law_read)
  f__law_tables : Addr
  fd__law_tables : FuncData
  F__law_tables : Fun K "_law_tables" "_law_tables" s__law_tables f__law_tables fd__law_tables
  b__law_tables : Binds K fd__law_tables ["table", "log"] []
  g__law_tables : mg "_law_tables" = some (.ref f__law_tables)
  f__law_stretch : Addr
  fd__law_stretch : FuncData
  F__law_stretch : Fun K "_law_stretch" "_law_stretch" s__law_stretch f__law_stretch fd__law_stretch
  b__law_stretch : Binds K fd__law_stretch ["bag", "keys"] []
  g__law_stretch : mg "_law_stretch" = some (.ref f__law_stretch)
  f__law_real_reading : Addr
  fd__law_real_reading : FuncData
  F__law_real_reading : Fun K "_law_real_reading" "_law_real_reading" s__law_real_reading f__law_real_reading fd__law_real_reading
  b__law_real_reading : Binds K fd__law_real_reading ["bag", "tables", "stretch", "low", "high"] []
  g__law_real_reading : mg "_law_real_reading" = some (.ref f__law_real_reading)
  f__law_other_rows : Addr
  fd__law_other_rows : FuncData
  F__law_other_rows : Fun K "_law_other_rows" "_law_other_rows" s__law_other_rows f__law_other_rows fd__law_other_rows
  b__law_other_rows : Binds K fd__law_other_rows ["bag", "rows"] []
  g__law_other_rows : mg "_law_other_rows" = some (.ref f__law_other_rows)
  f__law_all_rising : Addr
  fd__law_all_rising : FuncData
  F__law_all_rising : Fun K "_law_all_rising" "_law_all_rising" s__law_all_rising f__law_all_rising fd__law_all_rising
  b__law_all_rising : Binds K fd__law_all_rising ["low", "high", "many"] []
  g__law_all_rising : mg "_law_all_rising" = some (.ref f__law_all_rising)
  f_law : Addr
  fd_law : FuncData
  F_law : Fun K "law" "law" s_law f_law fd_law
  b_law : Binds K fd_law ["script"] []
  g_law : mg "law" = some (.ref f_law)
  z_tuple : mg "tuple" = none
  z_sorted : mg "sorted" = none
  z_dict : mg "dict" = none
  z_len : mg "len" = none
  z_list : mg "list" = none
  z_range : mg "range" = none
  z_abs : mg "abs" = none
  z_set : mg "set" = none
  z_enumerate : mg "enumerate" = none
  z_min : mg "min" = none
  z_int : mg "int" = none
section
variable {P : Program} {w : World} {K : PySem.W.Frag} {mg : Str → Option Value} {base : Heap}
theorem ok__law_take (T : Txt K mg) : FnOk P w K mg base CX0 1 T.f__law_take T.fd__law_take ["bag", "many"] spTake := by
  refine T.F__law_take.ok sc__law_take (fun vs H Q E h => ?_) (fun cdv A outer s H vs Q E hr h => ?_)
  · obtain ⟨b, m, rfl, _⟩ := h
    rfl
  · obtain ⟨b, m, rfl, ⟨x, y, hb, y0, y1⟩, m0, m1, q⟩ := h
    have line : (2 : Nat) ≤ sizeLine := by rw [sizeLine_eq]; decide
    refine ⟨_, (pss_cons (ps_if (pt_cmpG op_gtG (pe_ix (ixK (K := K)) (pn 0) pe_int (fun _ _ => rfl)) pe_int (nomark _))
      (pss_cons (ps_set (i := 2) sc__law_take.nd rfl (Or.inl rfl) (pe_op op_modG (pe_ix (ixK (K := K)) (pn 0) pe_int (fun _ _ => rfl)) (pn 1)))
      (pss_cons (ps_asg (pe_op op_fdivG (pe_ix (ixK (K := K)) (pn 0) pe_int (fun _ _ => rfl)) (pn 1)) (pg_sub (pn 0) pe_int set_list))
      (pss_one (ps_ret (pn 2)))))
      pss_nil)
      (pss_cons (ps_asg (pe_op op_modG (pe_op op_mulG (pe_ix (ixK (K := K)) (pn 0) pe_int (fun _ _ => rfl)) pe_int) pe_int) (pg_sub (pn 0) pe_int set_list))
      (pss_one (ps_ret (pe_op op_modG (pe_op op_fdivG (pe_op op_modG (pe_op op_mulG (pe_ix (ixK (K := K)) (pn 0) pe_int (fun _ _ => rfl)) (pe_ix (ixK (K := K)) (pn 0) pe_int (fun _ _ => rfl))) pe_int) pe_int) (pn 1)))))), ?_⟩
    have hm : m.natAbs < 2 ^ 200 := by omega
    have hd : CDivW x m := wide_div m0 hm (by decide) (by decide)
    have done : ∀ (r x' y' : Int), 0 ≤ r → r < m → 0 ≤ y' → y' < 4294967296 → Q (.int r) (upd H b (.lst [.int x', .int y'])) := fun r x' y' h1 h2 h3 h4 =>
      q r _ h1 h2 ⟨⟨x', y', upd_same, h3, h4⟩, fun a o na e => by rw [upd_ne na]; exact e⟩
    refine ⟨_, _, .inl (SqL.of hb), rfl, ite2 (fun e => ?_) (fun e => ?_)⟩
    · refine ⟨_, _, .inl (SqL.of hb), rfl, m0, ?_⟩
      refine ⟨_, _, .inl (SqL.of hb), rfl, hd, ?_⟩
      refine ⟨b, _, _, 0, rfl, rfl, hb, rfl, ?_⟩
      exact done _ _ _ (Int.emod_nonneg _ (by omega)) (Int.emod_lt_of_pos _ m0) y0 y1
    · have c1 : CMulW y 48271 := wide_mul (a := 40) (b := 40) (by omega) (by decide) (by decide) (by decide) (by decide)
      refine ⟨_, _, .inl (SqL.of hb), rfl, c1, by show (0 : Int) < 2147483647; decide, ?_⟩
      refine ⟨b, _, _, 1, rfl, rfl, hb, rfl, ?_⟩
      have y2 := Int.emod_nonneg (y * 48271) (show (2147483647 : Int) ≠ 0 by decide)
      have y3 := Int.emod_lt_of_pos (y * 48271) (show (0 : Int) < 2147483647 by decide)
      have c2 : CMulW (y * 48271 % 2147483647) (y * 48271 % 2147483647) := wide_mul (a := 40) (b := 40) (by omega) (by omega) (by decide) (by decide) (by decide)
      refine ⟨_, _, .inl (SqL.of upd_same), rfl, _, _, .inl (SqL.of upd_same), rfl, c2, by show (0 : Int) < 2147483629; decide, ?_⟩
      refine ⟨wide_div (b := 10) (by decide) (by decide) (by decide) (by decide), m0, ?_⟩
      refine q _ _ (Int.emod_nonneg _ (by omega)) (Int.emod_lt_of_pos _ m0) ⟨⟨x, y * 48271 % 2147483647, upd_same, y2, by omega⟩, fun a o na e => by rw [upd_ne na]; exact e⟩
theorem ok__law_bag (T : Txt K mg) : FnOk P w K mg base CX0 1 T.f__law_bag T.fd__law_bag ["script", "k"] (spBag K) := by
  refine T.F__law_bag.ok sc__law_bag (fun vs H Q E h => ?_) (fun cdv A outer s H vs Q E hr h => ?_)
  · obtain ⟨a, ns, k, rfl, _⟩ := h
    rfl
  · obtain ⟨a, ns, k, rfl, hs, k0, k1, q⟩ := h
    have line : (2 : Nat) ≤ sizeLine := by rw [sizeLine_eq]; decide
    refine ⟨_, (pss_cons (ps_set (i := 2) sc__law_bag.nd rfl (Or.inl rfl) pe_int)
      (pss_cons (ps_if (pt_cmpG op_ltG (pn 1) (pe_callB (lenK (K := K)) (by rfl) T.z_len Tc.boot_len (pa_cons (pn 0) pa_nil)) (nomark _))
      (pss_one (ps_set (i := 2) sc__law_bag.nd rfl (Or.inl rfl) (pe_callB call_absG (by rfl) T.z_abs Tc.boot_abs (pa_cons (pe_ix (ixK (K := K)) (pn 0) (pn 1) (fun _ _ => rfl)) pa_nil))))
      pss_nil)
      (pss_cons (ps_if (pt_cmpG op_ltG (pn 2) (pe_op op_powG pe_int pe_int) (nomark _))
      (pss_one (ps_ret (pe_lst (pa_cons pe_int (pa_cons (pe_op (addK (K := K)) pe_int (pe_op op_modG (pe_op (addK (K := K)) (pe_op op_mulG (pn 2) pe_int) (pe_op op_mulG pe_int (pn 1))) pe_int)) pa_nil)))))
      pss_nil)
      (pss_one (ps_ret (pe_lst (pa_cons (pn 2) (pa_cons (pe_op (addK (K := K)) pe_int (pe_op op_modG (pe_op (addK (K := K)) (pn 2) (pn 1)) pe_int)) pa_nil)))))))), ?_⟩
    have fin : ∀ (cell : Int) (σ : L2.St), 0 ≤ cell → σ = [some (.ref a), some (.int k), some (.int cell)] → tSeq (tIfS (tTestG (tOp (rII0 fun i j => .bl (decide (i < j))) (tV 2) (tOp (rII CPow fun i j => .int (i ^ j.toNat)) (tC (.int 10)) (tC (.int 18)))))
        (tRet (tLst (tCons (tC (.int 0)) (tCons (tOp (rAddG K) (tC (.int 1)) (tOp (rII (fun _ j => 0 < j) fun i j => .int (i % j)) (tOp (rAddG K) (tOp (rII CMulW fun i j => .int (i * j)) (tV 2) (tC (.int 7919))) (tOp (rII CMulW fun i j => .int (i * j)) (tC (.int 104729)) (tV 1))) (tC (.int 2147483646)))) tNil)))) tNext)
        (tRet (tLst (tCons (tV 2) (tCons (tOp (rAddG K) (tC (.int 1)) (tOp (rII (fun _ j => 0 < j) fun i j => .int (i % j)) (tOp (rAddG K) (tV 2) (tV 1)) (tC (.int 2147483646)))) tNil)))) { nx := fun _ H' => Q .non H', rt := Q } σ H := fun cell σ c0 es => by
      subst es
      refine ⟨⟨by decide, by decide, by decide⟩, ite2 (fun e => ?_) (fun e => ?_)⟩
      · have lt : cell < 10 ^ 18 := of_decide_eq_true e
        have c1 : CMulW cell 7919 := wide_mul (a := 70) (b := 40) (by omega) (by decide) (by decide) (by decide) (by decide)
        have c2 : CMulW 104729 k := wide_mul (a := 40) (b := 40) (by decide) (by omega) (by decide) (by decide) (by decide)
        refine ⟨c1, c2, by show (0 : Int) < 2147483646; decide, line, fun b hb => ?_⟩
        have z1 := Int.emod_nonneg (cell * 7919 + 104729 * k) (show (2147483646 : Int) ≠ 0 by decide)
        have z2 := Int.emod_lt_of_pos (cell * 7919 + 104729 * k) (show (0 : Int) < 2147483646 by decide)
        exact q b 0 _ hb (by omega) (by omega)
      · refine ⟨by show (0 : Int) < 2147483646; decide, line, fun b hb => ?_⟩
        have z1 := Int.emod_nonneg (cell + k) (show (2147483646 : Int) ≠ 0 by decide)
        have z2 := Int.emod_lt_of_pos (cell + k) (show (0 : Int) < 2147483646 by decide)
        exact q b cell _ hb (by omega) (by omega)
    refine ⟨_, .inl hs, ite2 (fun e => ?_) (fun e => ?_)⟩
    · have lt : k < (ns.map V.int).length := of_decide_eq_true e
      rw [List.length_map] at lt
      have hk : k.toNat < ns.length := by omega
      have at1 : atI (ns.map V.int) k = some (.int ns[k.toNat]) := by
        have e1 : (ns.map V.int)[k.toNat]? = some (.int ns[k.toNat]) := by rw [List.getElem?_map, List.getElem?_eq_getElem hk]; rfl
        have e2 := atI_nat e1
        rw [show ((k.toNat : Nat) : Int) = k by omega] at e2
        exact e2
      refine ⟨_, _, .inl hs, at1, ?_⟩
      refine fin _ _ ?_ rfl
      split <;> omega
    · exact fin 0 _ (by omega) rfl

end

section
variable {P : Program} {w : World} {K : PySem.W.Frag} {mg : Str → Option Value} {base : Heap}
theorem ok__law_keys (T : Txt K mg) : FnOk P w K mg base CX0 2 T.f__law_keys T.fd__law_keys ["bag"] spKeys := by
  refine T.F__law_keys.ok sc__law_keys (fun vs H Q E h => ?_) (fun cdv A outer s H vs Q E hr h => ?_)
  · obtain ⟨b, rfl, _⟩ := h
    rfl
  · obtain ⟨b, rfl, hb, q⟩ := h
    have l4 : (4 : Nat) ≤ sizeLine := line_le (by decide)
    have l2 : (2 : Nat) ≤ sizeLine := line_le (by decide)
    refine ⟨_, (pss_cons (ps_set (i := 1) sc__law_keys.nd rfl (Or.inr rfl) (pe_ix (ixK (K := K)) (pe_lst (pa_cons pe_int (pa_cons pe_int (pa_cons pe_int (pa_cons pe_int pa_nil))))) (pe_call (ok__law_take T) hr (by rfl) T.g__law_take T.F__law_take.kp T.b__law_take .nil pass0 (pa_cons (pn 0) (pa_cons pe_int pa_nil))) (fun _ _ => rfl)))
      (pss_cons (ps_set (i := 2) sc__law_keys.nd rfl (Or.inr rfl) (pe_call (ok__law_take T) hr (by rfl) T.g__law_take T.F__law_take.kp T.b__law_take .nil pass0 (pa_cons (pn 0) (pa_cons (pe_op op_subG pe_int (pe_op op_mulG pe_int (pn 1))) pa_nil))))
      (pss_one (ps_ret (pe_callB (sortedK (K := K) (w := w)) (by rfl) T.z_sorted Tc.boot_sorted (pa_cons (pe_callTy (setK (K := K) (w := w)) (by rfl) T.z_set Tc.boot_set (pa_cons (pe_op (addK (K := K)) (pe_lc (own := [("at", 3)]) rfl sc__law_keys.nd (pi_range1 (by rfl) T.z_range (pa_cons pe_int pa_nil)) (blkOk_by (own := [("at", 3)]) (N := ["bag", "step", "first", "at"]) (sc := defScope s__law_keys) (by decide +kernel)) (fun _ _ _ _ _ => by exact (pg_name (i := 3) sc__law_keys.nd rfl (Or.inl rfl))) (fun _ _ _ _ _ => by exact pts_nil) (fun _ _ _ _ _ => by exact (pe_op (addK (K := K)) (pn 2) (pe_op op_mulG (pn 1) (pn 3))))) (pe_lst (pa_cons pe_int (pa_cons pe_int pa_nil)))) pa_nil)) pa_nil)))))), ?_⟩
    refine ⟨l4, fun p0 n0 => ?_⟩
    have g0 : Gr b H (upd H p0 (.lst [.int 1, .int 2, .int 7, .int 90])) := Gr.new hb n0
    have np0 := hb.ne n0
    refine ⟨b, 4, rfl, g0.1, by decide, by decide, fun r H1 r0 r1 g1 => ?_⟩
    have e0 : H1 p0 = some (.lst [.int 1, .int 2, .int 7, .int 90]) := g1.2 _ _ np0 upd_same
    obtain ⟨st, hst, es⟩ := pickI [1, 2, 7, 90] r0 r1
    have st1 : 1 ≤ st ∧ st ≤ 90 := by
      simp only [List.mem_cons, List.not_mem_nil, or_false] at hst
      omega
    refine ⟨_, _, .inl (SqL.of e0), es, ?_⟩
    have c1 : CMulW 9 st := wide_mul (a := 40) (b := 40) (by decide) (by omega) (by decide) (by decide) (by decide)
    refine ⟨c1, b, 1000 - 9 * st, rfl, g1.1, by omega, by omega, fun f H2 f0 f1 g2 => ?_⟩
    have g3 : Gr b H H2 := (g0.trans g1).trans g2
    refine ⟨10, rfl, by decide, by decide, ?_⟩
    refine lc_rng (lo := 0) (n := 10) (fun k D H' => H' = upd H2 D (.lst ((List.range k).map fun i => V.int (f + st * ((i : Nat) : Int))))) (fun D hD => rfl) (fun k D H' lt hD e => ?_) (fun D H' hD e => ?_)
    · subst e
      have c2 : CMulW st (0 + (k : Nat)) := wide_mul (a := 40) (b := 40) (by omega) (by omega) (by decide) (by decide) (by decide)
      refine ⟨rfl, ?_⟩
      refine ⟨c2, _, upd_same, by rw [List.length_map, List.length_range]; exact line_lt (by omega), ?_⟩
      rw [upd_upd, List.range_succ, List.map_append, Int.zero_add]
      rfl
    · subst e
      have nD := g3.1.ne hD
      refine ⟨l2, fun E1 hE => ?_⟩
      have nDE : D ≠ E1 := fun z => by rw [← z, upd_same] at hE; cases hE
      have ms : (List.range 10).map (fun i => V.int (f + st * ((i : Nat) : Int))) ++ [V.int 0, V.int 999] = ((List.range 10).map (fun i => f + st * ((i : Nat) : Int)) ++ [0, 999]).map V.int := by
        rw [List.map_append, List.map_map]; rfl
      refine Or.inl ⟨D, E1, _, _, rfl, rfl, (by rw [upd_ne nDE]; exact upd_same), upd_same, line_le (by rw [List.length_map, List.length_range]; decide), fun C hC => ?_⟩
      rw [ms]
      refine ⟨C, _, rfl, SqL.of upd_same, by rw [List.length_append, List.length_map, List.length_range]; decide, fun S c hc hS => ?_⟩
      refine Or.inr ⟨S, _, _, rfl, upd_same, fun ks p hk hm hl hp => ?_⟩
      have g4 : Gr b H (upd H2 D (.lst ((List.range 10).map fun i => V.int (f + st * ((i : Nat) : Int))))) := g3.trans (Gr.new g3.1 hD)
      have g5 := g4.trans (Gr.new (o := .lst [V.int 0, V.int 999]) g4.1 hE)
      have g6 := g5.trans (Gr.new (o := .lst (((List.range 10).map (fun i => f + st * ((i : Nat) : Int)) ++ [0, 999]).map V.int)) g5.1 hC)
      have g7 := g6.trans (Gr.new (o := SetO w S (fun j => decide (j ∈ (List.range 10).map (fun i => f + st * ((i : Nat) : Int)) ++ [0, 999])) c) g6.1 hS)
      have g8 := g7.trans (Gr.new (o := .lst (ks.map V.int)) g7.1 hp)
      have kk : ∀ k, k ∈ ks ↔ k ∈ (List.range 10).map (fun i => f + st * ((i : Nat) : Int)) ++ [0, 999] := fun k => (hm k).trans decide_eq_true_iff
      refine q p ks _ ⟨hk, fun k hk2 => ?_, ?_, ?_⟩ g8 (g7.free hb hp) (off_mk (g7.1.ne hp) upd_same)
      · have z := (kk k).mp hk2
        rw [List.mem_append] at z
        rcases z with z | z
        · obtain ⟨i, hi, rfl⟩ := List.mem_map.mp z
          have hi := List.mem_range.mp hi
          have h0 : 0 ≤ st * (i : Int) := Int.mul_nonneg (by omega) (by omega)
          have h9 : st * (i : Int) ≤ st * 9 := Int.mul_le_mul_of_nonneg_left (by omega) (by omega)
          have f1 : f < 1000 - 9 * st := f1
          omega
        · simp only [List.mem_cons, List.not_mem_nil, or_false] at z
          omega
      · rw [List.length_append, List.length_map, List.length_range] at hc
        have hc : c ≤ 12 := hc
        omega
      · have z : (0 : Int) ∈ ks := (kk 0).mpr (List.mem_append_right _ List.mem_cons_self)
        exact List.length_pos_of_mem z
theorem ok__law_table (T : Txt K mg) : FnOk P w K mg base CX0 2 T.f__law_table T.fd__law_table ["bag", "keys"] (spTableF K) := by
  refine T.F__law_table.ok sc__law_table (fun vs H Q E h => ?_) (fun cdv A outer s H vs Q E hr h => ?_)
  · obtain ⟨b, p, ks, rfl, _⟩ := h
    rfl
  · obtain ⟨b, p, ks, rfl, hb, hp, few, q⟩ := h
    have l2 : (2 : Nat) ≤ sizeLine := line_le (by decide)
    refine ⟨_, (pss_one (ps_ret (pe_callTy (tupleFK (K := K)) (by rfl) T.z_tuple Tc.boot_tuple (pa_cons (pe_lc (own := [("key", 2)]) rfl sc__law_table.nd (piK (K := K) (pn 1)) (blkOk_by (own := [("key", 2)]) (N := ["bag", "keys", "key"]) (sc := defScope s__law_table) (by decide +kernel)) (fun _ _ _ _ _ => by exact (pg_name (i := 2) sc__law_table.nd rfl (Or.inl rfl))) (fun _ _ _ _ _ => by exact (pts_one (pt_cmpG op_gtG (pe_call (ok__law_take T) hr (by rfl) T.g__law_take T.F__law_take.kp T.b__law_take .nil pass0 (pa_cons (pn 0) (pa_cons pe_int pa_nil))) pe_int (nomark _)))) (fun _ _ _ _ _ => by exact (pe_tup (pa_cons (pn 2) (pa_cons (pe_call (ok__law_take T) hr (by rfl) T.g__law_take T.F__law_take.kp T.b__law_take .nil pass0 (pa_cons (pn 0) (pa_cons pe_int pa_nil))) pa_nil))))) pa_nil)))), ?_⟩
    have pb := (off_some hp).1
    refine lc_sq (K := K) (ks.map V.int) (.inl (SqL.of hp.at)) (fun k D H' => Gr b H H' ∧ D ≠ b ∧ ∃ acc rows, H' D = some (.lst acc) ∧ DVs K H' acc (rows.map rowD) ∧ RowsIn (ks.take k) rows)
      (fun D hD => ⟨Gr.new hb hD, hb.ne hD, [], [], upd_same, .nil, List.nil_sublist _, fun _ z => by cases z⟩) (fun k D H' hD pv o ho => pv.1.2 _ _ pb ho) (fun k x D H' lt hx hD pv => ?_) (fun D H' hD pv => ?_)
    · obtain ⟨g, nb, acc, rows, hacc, hd, hr1, hr2⟩ := pv
      rw [List.getElem?_map] at hx
      obtain ⟨key, hkey, rfl⟩ : ∃ key, ks[k]? = some key ∧ x = V.int key := by
        cases e : ks[k]? with
        | none => rw [e] at hx; cases hx
        | some z => rw [e] at hx; cases hx; exact ⟨z, rfl, rfl⟩
      refine ⟨rfl, ?_⟩
      refine ⟨b, 3, rfl, g.1, by decide, by decide, fun r H2 r0 r1 g1 => ?_⟩
      have g2 := g.trans g1
      have e2 := g1.2 _ _ nb hacc
      have hd2 := hd.ts (g1.ts g.1) (noLs_map rowD noL_row rows)
      have tk : ks.take (k + 1) = ks.take k ++ [key] := by rw [List.take_add_one, hkey]; rfl
      refine ite2 (fun e => ?_) (fun e => ?_)
      · refine ⟨b, 1000, rfl, g2.1, by decide, by decide, fun wo H3 w0 w1 g3 => ?_⟩
        refine ⟨l2, fun t ht => ?_⟩
        have g4 := g3.trans (Gr.new (o := .tup [V.int key, V.int wo]) g3.1 ht)
        have e3 := g4.2 _ _ nb e2
        have len : acc.length ≤ k := by
          rw [hd.length, List.length_map, ← List.length_map (f := (·.1)) (as := rows)]
          refine Nat.le_trans hr1.length_le ?_
          rw [List.length_take]
          omega
        have ltk : k < 1000 := by rw [List.length_map] at lt; omega
        have hd4 := hd2.ts (g4.ts g2.1) (noLs_map rowD noL_row rows)
        have hn : DVs K (upd H3 t (.tup [V.int key, V.int wo])) (acc ++ [.ref t]) ((rows ++ [(key, wo)]).map rowD) := by
          rw [List.map_append]
          exact hd4.snoc (dv_row upd_same)
        refine ⟨acc, e3, line_lt (by omega), (g2.trans g4).put nb hD, nb, acc ++ [.ref t], rows ++ [(key, wo)], upd_same, hn.ts (TSame.lst e3) (noLs_map rowD noL_row _), ?_, fun y hy => ?_⟩
        · rw [tk, List.map_append]
          exact List.Sublist.append hr1 (List.Sublist.refl _)
        · rcases List.mem_append.mp hy with hy | hy
          · exact hr2 y hy
          · cases List.mem_singleton.mp hy
            exact ⟨w0, by show wo ≤ 999; omega⟩
      · refine ⟨g2, nb, acc, rows, e2, hd2, ?_, hr2⟩
        rw [tk]
        exact hr1.trans (List.sublist_append_left _ _)
    · obtain ⟨g, nb, acc, rows, hacc, hd, hr⟩ := pv
      rw [List.length_map, List.take_length] at hr
      exact ⟨acc, SqL.of hacc, fun l o hl hc hdn => q _ rows _ hr (g.trans (Gr.new g.1 hl)) (TabAt.mk hl hc hdn hd)⟩

end

section
variable {P : Program} {w : World} {K : PySem.W.Frag} {mg : Str → Option Value} {base : Heap}
theorem ok__law_of (T : Txt K mg) : FnOk P w K mg base CX0 2 T.f__law_of T.fd__law_of ["bag", "some"] (spOf K) := by
  refine T.F__law_of.ok sc__law_of (fun vs H Q E h => ?_) (fun cdv A outer s H vs Q E hr h => ?_)
  · obtain ⟨b, p, xs, rfl, _⟩ := h
    rfl
  · obtain ⟨b, p, xs, rfl, hb, hs, n0, n1, q⟩ := h
    refine ⟨_, (pss_one (ps_ret (pe_ix (ixK (K := K)) (pn 1) (pe_call (ok__law_take T) hr (by rfl) T.g__law_take T.F__law_take.kp T.b__law_take .nil pass0 (pa_cons (pn 0) (pa_cons (pe_callB (lenK (K := K)) (by rfl) T.z_len Tc.boot_len (pa_cons (pn 1) pa_nil)) pa_nil))) (fun _ _ => rfl)))), ?_⟩
    refine ⟨xs, hs.sq, b, _, rfl, hb, by omega, by omega, fun r H1 r0 r1 g1 => ?_⟩
    obtain ⟨v, hv, e⟩ := pickV xs r0 r1
    exact ⟨xs, v, (hs.gr g1).sq, e, q v _ (List.mem_of_getElem? hv) g1⟩
theorem ok__law_changes (T : Txt K mg) : FnOk P w K mg base CX0 3 T.f__law_changes T.fd__law_changes ["bag", "keys", "most"] (spChanges K) := by
  refine T.F__law_changes.ok sc__law_changes (fun vs H Q E h => ?_) (fun cdv A outer s H vs Q E hr h => ?_)
  · obtain ⟨b, p, ks, m, rfl, _⟩ := h
    rfl
  · obtain ⟨b, p, ks, m, rfl, hb, hp, k0, k1, m0, m1, q⟩ := h
    have l0 : (0 : Nat) ≤ sizeLine := Nat.zero_le _
    have l2 : (2 : Nat) ≤ sizeLine := line_le (by decide)
    have l3 : (3 : Nat) ≤ sizeLine := line_le (by decide)
    refine ⟨_, (pss_cons (ps_set (i := 3) sc__law_changes.nd rfl (Or.inl rfl) (pe_lst pa_nil))
      (pss_cons (ps_for PassesOwn.never rfl (pi_range1 (by rfl) T.z_range (pa_cons (pe_op (addK (K := K)) pe_int (pe_call (ok__law_take T) (hr.mono (by decide)) (by rfl) T.g__law_take T.F__law_take.kp T.b__law_take .nil pass0 (pa_cons (pn 0) (pa_cons (pn 2) pa_nil)))) pa_nil)) (pg_name (i := 4) sc__law_changes.nd rfl (Or.inl rfl))
      (pss_cons (ps_set (i := 5) sc__law_changes.nd rfl (Or.inl rfl) (pe_call (ok__law_of T) hr (by rfl) T.g__law_of T.F__law_of.kp T.b__law_of .nil pass0 (pa_cons (pn 0) (pa_cons (pn 1) pa_nil))))
      (pss_one (ps_if (pt_cmpG (eqK (K := K) hr.units) (pe_call (ok__law_take T) (hr.mono (by decide)) (by rfl) T.g__law_take T.F__law_take.kp T.b__law_take .nil pass0 (pa_cons (pn 0) (pa_cons pe_int pa_nil))) pe_int (nomark _))
      (pss_one (ps_expr (pe_bm PySem.F.plainAttrs_list PySem.F.slot_list_append PySem.F.type_list_append mt_append (pn 3) (pa_cons (pe_tup (pa_cons pe_str (pa_cons (pn 5) pa_nil))) pa_nil))))
      (pss_one (ps_expr (pe_bm PySem.F.plainAttrs_list PySem.F.slot_list_append PySem.F.type_list_append mt_append (pn 3) (pa_cons (pe_tup (pa_cons pe_str (pa_cons (pn 5) (pa_cons (pe_ix (ixK (K := K)) (pe_lst (pa_cons (pe_call (ok__law_take T) (hr.mono (by decide)) (by rfl) T.g__law_take T.F__law_take.kp T.b__law_take .nil pass0 (pa_cons (pn 0) (pa_cons pe_int pa_nil))) (pa_cons (pe_call (ok__law_take T) (hr.mono (by decide)) (by rfl) T.g__law_take T.F__law_take.kp T.b__law_take .nil pass0 (pa_cons (pn 0) (pa_cons pe_int pa_nil))) pa_nil))) (pe_call (ok__law_take T) (hr.mono (by decide)) (by rfl) T.g__law_take T.F__law_take.kp T.b__law_take .nil pass0 (pa_cons (pn 0) (pa_cons pe_int pa_nil))) (fun _ _ => rfl)) pa_nil)))) pa_nil))))))))
      (pss_one (ps_ret (pe_callTy (tupleK (K := K)) (by rfl) T.z_tuple Tc.boot_tuple (pa_cons (pn 3) pa_nil)))))), ?_⟩
    refine ⟨l0, fun D nD => ?_⟩
    have hbD := hb.ne nD
    have g0 : Gr b H (upd H D (.lst [])) := Gr.new hb nD
    refine ⟨b, m, rfl, g0.1, by omega, by omega, fun r H1 r0 r1 g1 => ?_⟩
    refine ⟨1 + r, rfl, by omega, by omega, ?_⟩
    have e1 : H1 D = some (.lst []) := g1.2 _ _ hbD upd_same
    refine for_range (lo := 0) (n := (1 + r).toNat) (fun i σ H' => Gr b H H' ∧ ∃ acc cs x4 x5, σ = [some (.ref b), some (.ref p), some (.int m), some (.ref D), x4, x5] ∧ H' D = some (.lst acc) ∧ DVs K H' acc (cs.map chD) ∧ cs.length = i ∧ ∀ c ∈ cs, c.In ks) ⟨g0.trans g1, [], [], _, _, rfl, e1, .nil, rfl, fun c hc => by cases hc⟩ (fun i σ H2 lt pv => ?_) (fun σ H2 pv => ?_)
    · obtain ⟨g2, acc, cs, x4, x5, rfl, eD, hd, hl, hc⟩ := pv
      refine ⟨b, p, _, rfl, g2.1, (hp.gr g2).sqAt, by rw [List.length_map]; exact k0, by rw [List.length_map]; omega, fun x H3 hx g3 => ?_⟩
      obtain ⟨key, hkey, rfl⟩ := List.mem_map.mp hx
      have G3 := g2.trans g3
      have la : acc.length < sizeLine := by
        rw [hd.length, List.length_map]
        exact line_lt (by omega)
      refine ⟨b, 3, rfl, G3.1, by decide, by decide, fun r2 H4 _ _ g4 => ?_⟩
      have G4 := G3.trans g4
      have D4 := (g3.trans g4).2 _ _ hbD eD
      have d4 := hd.ts ((g3.trans g4).ts g2.1) (noLs_chs cs)
      refine ite2 (fun e => ?_) (fun e => ?_)
      · refine ⟨.inl ⟨rfl, _, SqL.of D4⟩, l2, fun t ht => ?_⟩
        have g5 := Gr.new (o := .tup [.str "drop", .int key]) G4.1 ht
        have D5 := g5.2 _ _ hbD D4
        refine ⟨D, acc, _, rfl, rfl, D5, la, ?_⟩
        have d5 : DVs K (upd H4 t (.tup [.str "drop", .int key])) (acc ++ [.ref t]) ((cs ++ [Ch.drop key]).map chD) := by
          rw [List.map_append]
          exact (DVs.same (same_upd ht) d4).snoc (dv_drop (K := K) upd_same)
        refine ⟨(G4.trans g5).put hbD nD, acc ++ [.ref t], cs ++ [.drop key], _, _, rfl, upd_same, d5.ts (TSame.lst D5) (noLs_chs _), by rw [List.length_append, hl]; rfl, fun c hc' => ?_⟩
        · rcases List.mem_append.mp hc' with z | z
          · exact hc c z
          · cases List.mem_singleton.mp z
            exact hkey
      · refine ⟨.inl ⟨rfl, _, SqL.of D4⟩, b, 1000, rfl, G4.1, by decide, by decide, fun w1 H5 w10 w11 g5 => ?_⟩
        refine ⟨b, 3, rfl, g5.1, by decide, by decide, fun w2 H6 w20 w21 g6 => ⟨l2, fun L hL => ?_⟩⟩
        have g7 := Gr.new (o := .lst [.int w1, .int w2]) g6.1 hL
        have nL := g6.1.ne hL
        refine ⟨b, 2, rfl, g7.1, by decide, by decide, fun r3 H7 r30 r31 g8 => ?_⟩
        have eL := g8.2 _ _ nL upd_same
        obtain ⟨wo, hwo, ewo⟩ := pickI [w1, w2] r30 r31
        have wo1 : 0 ≤ wo ∧ wo ≤ 999 := by
          simp only [List.mem_cons, List.not_mem_nil, or_false] at hwo
          rcases hwo with rfl | rfl <;> omega
        refine ⟨_, _, .inl (SqL.of eL), ewo, l3, fun t ht => ?_⟩
        have g9 := Gr.new (o := .tup [.str "put", .int key, .int wo]) g8.1 ht
        have gg := ((g5.trans g6).trans g7).trans g8
        have D7 := gg.2 _ _ hbD D4
        have D5 := g9.2 _ _ hbD D7
        refine ⟨D, acc, _, rfl, rfl, D5, la, ?_⟩
        have d7 := d4.ts (gg.ts G4.1) (noLs_chs cs)
        have d5 : DVs K (upd H7 t (.tup [.str "put", .int key, .int wo])) (acc ++ [.ref t]) ((cs ++ [Ch.put key wo]).map chD) := by
          rw [List.map_append]
          exact (DVs.same (same_upd ht) d7).snoc (dv_put (K := K) upd_same)
        refine ⟨((G4.trans gg).trans g9).put hbD nD, acc ++ [.ref t], cs ++ [.put key wo], _, _, rfl, upd_same, d5.ts (TSame.lst D5) (noLs_chs _), by rw [List.length_append, hl]; rfl, fun c hc' => ?_⟩
        · rcases List.mem_append.mp hc' with z | z
          · exact hc c z
          · cases List.mem_singleton.mp z
            exact ⟨hkey, wo1⟩
    · obtain ⟨g2, acc, cs, x4, x5, rfl, eD, hd, hl, hc⟩ := pv
      refine Or.inl ⟨acc, SqL.of eD, fun t ht => ?_⟩
      have g3 := Gr.new (o := .tup acc) g2.1 ht
      exact q t acc cs _ (g2.free hb ht) (by omega) (by omega) hc (g2.trans g3) upd_same (hd.same (same_upd ht))
theorem ok__law_entry (T : Txt K mg) : FnOk P w K mg base CX0 4 T.f__law_entry T.fd__law_entry ["bag", "keys"] (spEntry K) := by
  refine T.F__law_entry.ok sc__law_entry (fun vs H Q E h => ?_) (fun cdv A outer s H vs Q E hr h => ?_)
  · obtain ⟨b, p, ks, rfl, _⟩ := h
    rfl
  · obtain ⟨b, p, ks, rfl, hb, hp, k0, k1, q⟩ := h
    have l2 : (2 : Nat) ≤ sizeLine := line_le (by decide)
    have l3 : (3 : Nat) ≤ sizeLine := line_le (by decide)
    refine ⟨_, (pss_cons (ps_if (pt_cmpG (eqK (K := K) hr.units) (pe_call (ok__law_take T) (hr.mono (by decide)) (by rfl) T.g__law_take T.F__law_take.kp T.b__law_take .nil pass0 (pa_cons (pn 0) (pa_cons pe_int pa_nil))) pe_int (nomark _))
      (pss_one (ps_ret (pe_tup (pa_cons (pe_ix (ixK (K := K)) (pe_lst (pa_cons pe_str (pa_cons pe_str pa_nil))) (pe_call (ok__law_take T) (hr.mono (by decide)) (by rfl) T.g__law_take T.F__law_take.kp T.b__law_take .nil pass0 (pa_cons (pn 0) (pa_cons pe_int pa_nil))) (fun _ _ => rfl)) (pa_cons (pe_op (addK (K := K)) pe_int (pe_call (ok__law_take T) (hr.mono (by decide)) (by rfl) T.g__law_take T.F__law_take.kp T.b__law_take .nil pass0 (pa_cons (pn 0) (pa_cons pe_int pa_nil)))) (pa_cons (pe_call (ok__law_take T) (hr.mono (by decide)) (by rfl) T.g__law_take T.F__law_take.kp T.b__law_take .nil pass0 (pa_cons (pn 0) (pa_cons pe_int pa_nil))) pa_nil))))))
      pss_nil)
      (pss_one (ps_ret (pe_tup (pa_cons pe_str (pa_cons (pe_call (ok__law_changes T) hr (by rfl) T.g__law_changes T.F__law_changes.kp T.b__law_changes .nil pass0 (pa_cons (pn 0) (pa_cons (pn 1) (pa_cons pe_int pa_nil)))) pa_nil)))))), ?_⟩
    refine ⟨b, 4, rfl, hb, by decide, by decide, fun r H1 _ _ g1 => ite2 (fun e => ?_) (fun e => ?_)⟩
    · refine ⟨l2, fun L hL => ?_⟩
      have g2 := g1.trans (Gr.new (o := .lst [.str "low", .str "high"]) g1.1 hL)
      have nL := g1.1.ne hL
      refine ⟨b, 2, rfl, g2.1, by decide, by decide, fun r2 H2 r20 r21 g3 => ?_⟩
      have eL := g3.2 _ _ nL upd_same
      obtain ⟨lo, elo⟩ : ∃ lo, atI [V.str "low", .str "high"] r2 = some (.str (mkS lo)) := by
        rcases (by omega : r2 = 0 ∨ r2 = 1) with rfl | rfl
        · exact ⟨true, rfl⟩
        · exact ⟨false, rfl⟩
      refine ⟨_, _, .inl (SqL.of eL), elo, b, 4, rfl, g3.1, by decide, by decide, fun r3 H3 r30 r31 g4 => ?_⟩
      refine ⟨b, 9, rfl, g4.1, by decide, by decide, fun r4 H4 r40 r41 g5 => ⟨l3, fun t ht => ?_⟩⟩
      have g6 := Gr.new (o := .tup [.str (mkS lo), .int (1 + r3), .int r4]) g5.1 ht
      exact q _ (.mark lo (1 + r3) r4) _ ⟨by omega, by omega, by omega, by omega⟩ ((((g2.trans g3).trans g4).trans g5).trans g6) (.tup (.inl (.inl upd_same)) (.cons (.str _) (.cons (.int _) (.cons (.int _) .nil))))
    · refine ⟨b, p, ks, 3, rfl, g1.1, hp.gr g1, k0, k1, by decide, by decide, fun t vs cs H2 nt c1 c2 hc g2 et hd => ⟨l2, fun u hu => ?_⟩⟩
      have g3 := Gr.new (o := .tup [.str "group", .ref t]) g2.1 hu
      have s3 := same_upd (o := .tup [.str "group", .ref t]) hu
      exact q _ (.group cs) _ ⟨c1, c2, hc⟩ ((g1.trans g2).trans g3) (.tup (.inl (.inl upd_same)) (.cons (.str _) (.cons (.tup (.inl (.inl (s3 _ _ et))) (DVs.same s3 hd)) .nil)))
theorem ok__law_log (T : Txt K mg) : FnOk P w K mg base CX0 5 T.f__law_log T.fd__law_log ["bag", "keys", "most"] (spLog K) := by
  refine T.F__law_log.ok sc__law_log (fun vs H Q E h => ?_) (fun cdv A outer s H vs Q E hr h => ?_)
  · obtain ⟨b, p, ks, m, rfl, _⟩ := h
    rfl
  · obtain ⟨b, p, ks, m, rfl, hb, hp, k0, k1, m1, q⟩ := h
    refine ⟨_, (pss_one (ps_ret (pe_lc (own := [("turn", 3)]) rfl sc__law_log.nd (pi_range1 (by rfl) T.z_range (pa_cons (pe_call (ok__law_take T) (hr.mono (by decide)) (by rfl) T.g__law_take T.F__law_take.kp T.b__law_take .nil pass0 (pa_cons (pn 0) (pa_cons (pe_op (addK (K := K)) (pn 2) pe_int) pa_nil))) pa_nil)) (blkOk_by (own := [("turn", 3)]) (N := ["bag", "keys", "most", "turn"]) (sc := defScope s__law_log) (by decide +kernel)) (fun _ _ _ _ _ => by exact (pg_name (i := 3) sc__law_log.nd rfl (Or.inl rfl))) (fun _ _ _ _ _ => by exact pts_nil) (fun _ _ _ _ _ => by exact (pe_call (ok__law_entry T) hr (by rfl) T.g__law_entry T.F__law_entry.kp T.b__law_entry .nil pass0 (pa_cons (pn 0) (pa_cons (pn 1) pa_nil))))))), ?_⟩
    refine ⟨b, m + 1, rfl, hb, by omega, by omega, fun r H1 r0 r1 g1 => ⟨r, rfl, by omega, by omega, ?_⟩⟩
    refine lc_rng (lo := 0) (n := r.toNat) (fun k D H' => Gr b H H' ∧ ∃ acc es, H' D = some (.lst acc) ∧ es.length = k ∧ DVs K H' acc (es.map entD) ∧ ∀ e ∈ es, Ent.In ks 3 e) (fun D hD => ⟨g1.trans (Gr.new g1.1 hD), [], [], upd_same, rfl, .nil, fun e he => by cases he⟩) (fun k D H' lt hD pv => ?_) (fun D H' hD pv => ?_)
    · obtain ⟨g, acc, es, hacc, hlen, hd, hin⟩ := pv
      have nD := g1.1.ne hD
      refine ⟨rfl, ?_⟩
      refine ⟨b, p, ks, rfl, g.1, hp.gr g, k0, k1, fun v e H2 he g2 dv => ?_⟩
      have e2 := g2.2 _ _ nD hacc
      have d2 : DVs K H2 (acc ++ [v]) ((es ++ [e]).map entD) := by
        rw [List.map_append]
        exact (hd.ts (g2.ts g.1) (noLs_ents es)).snoc dv
      refine ⟨acc, e2, line_lt (by rw [hd.length, List.length_map]; omega), (g.trans g2).put nD (g1.free hb hD), acc ++ [v], es ++ [e], upd_same, by rw [List.length_append, hlen]; rfl, d2.ts (TSame.lst e2) (noLs_ents _), fun x hx => ?_⟩
      · rcases List.mem_append.mp hx with z | z
        · exact hin x z
        · cases List.mem_singleton.mp z
          exact he
    · obtain ⟨g, acc, es, hacc, hlen, hd, hin⟩ := pv
      exact q D acc es H' (g1.free hb hD) (by omega) hin g hacc hd

end

section
variable {P : Program} {w : World} {K : PySem.W.Frag} {mg : Str → Option Value} {base : Heap}
theorem ok_changes_of (T : Txt K mg) : FnOk P w K mg base CX0 1 T.f_changes_of T.fd_changes_of ["entry"] (spChsOf K) := by
  refine T.F_changes_of.ok sc_changes_of (fun vs H Q E h => ?_) (fun cdv A outer s H vs Q E hr h => ?_)
  · obtain ⟨v, e, rfl, _⟩ := h
    rfl
  · obtain ⟨v, e, rfl, hd, q⟩ := h
    have l0 : (0 : Nat) ≤ sizeLine := Nat.zero_le _
    refine ⟨_, (pss_one (ps_ret (pe_ifExp (pt_cmpG (eqK (K := K) hr.units) (pe_ix (ixK (K := K)) (pn 0) pe_int (fun _ _ => rfl)) pe_str (nomark _)) (pe_ix (ixK (K := K)) (pn 0) pe_int (fun _ _ => rfl)) (pe_tup pa_nil)))), ?_⟩
    cases e with
    | group cs =>
      obtain ⟨p, x, rfl, hs, hx⟩ := hd.group
      exact ⟨_, _, .inr hs, at0, ⟨_, x, .inr hs, at1, q x H (Same.refl H) hx⟩⟩
    | mark lo l n =>
      obtain ⟨p, rfl, hs⟩ := hd.mark
      cases lo <;> exact ⟨_, _, .inr hs, at0, ⟨l0, fun t ht => q _ _ (same_upd ht) (.tup (.inl (.inl upd_same)) .nil)⟩⟩
theorem ok_put_change (T : Txt K mg) : FnOk P w K mg base CX0 1 T.f_put_change T.fd_put_change ["rows", "change"] (spPut K) := by
  refine T.F_put_change.ok sc_put_change (fun vs H Q E h => ?_) (fun cdv A outer s H vs Q E hr h => ?_)
  · obtain ⟨d, M, v, c, rfl, _⟩ := h
    rfl
  · obtain ⟨d, M, v, c, rfl, hd, hl, hv, q⟩ := h
    have hu := hu_of hr
    refine ⟨_, (pss_one (ps_if (pt_cmpG (eqK (K := K) hr.units) (pe_ix (ixK (K := K)) (pn 1) pe_int (fun _ _ => rfl)) pe_str (nomark _))
      (pss_one (ps_dput hu (pn 0) (pe_ix (ixK (K := K)) (pn 1) pe_int (fun _ _ => rfl)) (pe_ix (ixK (K := K)) (pn 1) pe_int (fun _ _ => rfl)) rfl))
      (pss_one (ps_expr (pe_dpop2 (pn 0) (pe_ix (ixK (K := K)) (pn 1) pe_int (fun _ _ => rfl)) pe_non ⟨by rfl, by rfl, by rfl, by rfl⟩))))), ?_⟩
    cases c with
    | put k w =>
      obtain ⟨p, rfl, hs⟩ := hv.put
      refine ⟨_, _, .inr hs, at0, ?_⟩
      refine ⟨_, _, .inr hs, at2, _, _, .inr hs, at1, d, _, rfl, .inl ⟨_, .inl k, hd, rfl, line_lt (by unfold kvM; rw [List.length_map]; omega), rfl⟩, ?_⟩
      rw [put_kvs]
      exact q
    | drop k =>
      obtain ⟨p, rfl, hs⟩ := hv.drop
      refine ⟨_, _, .inr hs, at0, ?_⟩
      refine ⟨d, rfl, .inl ⟨_, .inl hd⟩, _, _, .inr hs, at1, kvM M, .inl k, hd, rfl, fun v e => ?_, fun e => ?_⟩
      · rw [drop_kvs]
        exact q
      · have z := q
        have e2 : chM M (.drop k) = M := drop_none (by rw [val_kvs] at e; cases h : getM M k with | none => rfl | some _ => rw [h] at e; cases e)
        rw [e2, upd_self hd] at z
        exact z
theorem ok_pairs_of (T : Txt K mg) : FnOk P w K mg base CX0 1 T.f_pairs_of T.fd_pairs_of ["rows"] (spPairs K) := by
  refine T.F_pairs_of.ok sc_pairs_of (fun vs H Q E h => ?_) (fun cdv A outer s H vs Q E hr h => ?_)
  · obtain ⟨d, M, rfl, _⟩ := h
    rfl
  · obtain ⟨d, M, rfl, hd, nd, lt, q⟩ := h
    have hu := hu_of hr
    have l2 : (2 : Nat) ≤ sizeLine := line_le (by decide)
    refine ⟨_, (pss_one (ps_ret (pe_callTy (tupleFK (K := K)) (by rfl) T.z_tuple Tc.boot_tuple (pa_cons (pe_lc (own := [("key", 1)]) rfl sc_pairs_of.nd (piK (K := K) (pe_callB sortDK (by rfl) T.z_sorted Tc.boot_sorted (pa_cons (pn 0) pa_nil))) (blkOk_by (own := [("key", 1)]) (N := ["rows", "key"]) (sc := defScope s_pairs_of) (by decide +kernel)) (fun _ _ _ _ _ => by exact (pg_name (i := 1) sc_pairs_of.nd rfl (Or.inl rfl))) (fun _ _ _ _ _ => by exact pts_nil) (fun _ _ _ _ _ => by exact (pe_tup (pa_cons (pn 1) (pa_cons (pe_dget hu (pn 0) (pn 1) (fun _ _ => rfl)) pa_nil))))) pa_nil)))), ?_⟩
    refine ⟨kvM M, M.map (·.1), .inl hd, keys_kvs M, by rw [List.length_map]; exact lt, fun ys p hp hs np => ?_⟩
    have eys := sort_is nd hp hs
    subst eys
    have s1 := same_upd (o := .lst ((sortI (M.map (·.1))).map V.int)) np
    have ln : (sortI (M.map (·.1))).length < 64 := by unfold sortI; rw [List.length_mergeSort, List.length_map]; exact lt
    refine lc_sq (K := K) ((sortI (M.map (·.1))).map V.int) (.inl (SqL.of upd_same)) (fun k D H' => Same (upd H p (.lst ((sortI (M.map (·.1))).map V.int))) H' ∧ ∃ acc, H' D = some (.lst acc) ∧ DVs K H' acc (((tabOf M).take k).map rowD) ∧ acc.length = k)
      (fun D hD => ⟨same_upd hD, [], upd_same, .nil, rfl⟩) (fun k D H' hD pv o ho => pv.1 _ _ ho) (fun k x D H' lt2 hx hD pv => ?_) (fun D H' hD pv => ?_)
    · obtain ⟨sm, acc, hacc, hdv, hlen⟩ := pv
      rw [List.getElem?_map] at hx
      cases ek : (sortI (M.map (·.1)))[k]? with
      | none => rw [ek] at hx; cases hx
      | some key =>
        rw [ek] at hx
        cases hx
        obtain ⟨wo, eg, hm⟩ := get_mem (sortI_mem.mp (List.mem_of_getElem? ek))
        have hdd := sm _ _ (s1 _ _ hd)
        have et : (tabOf M)[k]? = some (key, wo) := by
          unfold tabOf
          rw [List.getElem?_map, ek]
          show some (key, (getM M key).getD 0) = _
          rw [eg]; rfl
        have nDd : D ≠ d := fun z => by rw [z, s1 _ _ hd] at hD; cases hD
        have lk : k < 64 := by rw [List.length_map] at lt2; omega
        refine ⟨rfl, d, .int wo, rfl, .inl ⟨_, .inl key, .inl hdd, rfl, by rw [val_kvs, eg]; rfl⟩, l2, fun t ht => ?_⟩
        have s2 := same_upd (o := .tup [V.int key, V.int wo]) ht
        have e2 := s2 _ _ hacc
        refine ⟨acc, e2, line_lt (by omega), same_put (sm.trans s2) hD, acc ++ [.ref t], upd_same, ?_, by rw [List.length_append, hlen]; rfl⟩
        have hn : DVs K (upd H' t (.tup [V.int key, V.int wo])) (acc ++ [.ref t]) (((tabOf M).take (k + 1)).map rowD) := by
          rw [List.take_add_one, et, List.map_append]
          exact (hdv.same s2).snoc (dv_row upd_same)
        exact hn.ts (TSame.lst e2) (noLs_map rowD noL_row _)
    · obtain ⟨sm, acc, hacc, hdv, hlen⟩ := pv
      rw [List.length_map] at hdv
      have lt3 : (tabOf M).length = (sortI (M.map (·.1))).length := List.length_map _
      rw [← lt3, List.take_length] at hdv
      refine ⟨acc, SqL.of hacc, fun l o hl hc hdn => q _ _ ((s1.trans sm).trans (same_upd hl)) (TabAt.mk hl hc hdn hdv)⟩
theorem ok__law_pairs (T : Txt K mg) : FnOk P w K mg base CX0 1 T.f__law_pairs T.fd__law_pairs ["rows"] (spPairs K) := by
  refine T.F__law_pairs.ok sc__law_pairs (fun vs H Q E h => ?_) (fun cdv A outer s H vs Q E hr h => ?_)
  · obtain ⟨d, M, rfl, _⟩ := h
    rfl
  · obtain ⟨d, M, rfl, hd, nd, lt, q⟩ := h
    have hu := hu_of hr
    have l2 : (2 : Nat) ≤ sizeLine := line_le (by decide)
    refine ⟨_, (pss_one (ps_ret (pe_callTy (tupleFK (K := K)) (by rfl) T.z_tuple Tc.boot_tuple (pa_cons (pe_lc (own := [("key", 1)]) rfl sc__law_pairs.nd (piK (K := K) (pe_callB sortDK (by rfl) T.z_sorted Tc.boot_sorted (pa_cons (pn 0) pa_nil))) (blkOk_by (own := [("key", 1)]) (N := ["rows", "key"]) (sc := defScope s__law_pairs) (by decide +kernel)) (fun _ _ _ _ _ => by exact (pg_name (i := 1) sc__law_pairs.nd rfl (Or.inl rfl))) (fun _ _ _ _ _ => by exact pts_nil) (fun _ _ _ _ _ => by exact (pe_tup (pa_cons (pn 1) (pa_cons (pe_dget hu (pn 0) (pn 1) (fun _ _ => rfl)) pa_nil))))) pa_nil)))), ?_⟩
    refine ⟨kvM M, M.map (·.1), .inl hd, keys_kvs M, by rw [List.length_map]; exact lt, fun ys p hp hs np => ?_⟩
    have eys := sort_is nd hp hs
    subst eys
    have s1 := same_upd (o := .lst ((sortI (M.map (·.1))).map V.int)) np
    have ln : (sortI (M.map (·.1))).length < 64 := by unfold sortI; rw [List.length_mergeSort, List.length_map]; exact lt
    refine lc_sq (K := K) ((sortI (M.map (·.1))).map V.int) (.inl (SqL.of upd_same)) (fun k D H' => Same (upd H p (.lst ((sortI (M.map (·.1))).map V.int))) H' ∧ ∃ acc, H' D = some (.lst acc) ∧ DVs K H' acc (((tabOf M).take k).map rowD) ∧ acc.length = k)
      (fun D hD => ⟨same_upd hD, [], upd_same, .nil, rfl⟩) (fun k D H' hD pv o ho => pv.1 _ _ ho) (fun k x D H' lt2 hx hD pv => ?_) (fun D H' hD pv => ?_)
    · obtain ⟨sm, acc, hacc, hdv, hlen⟩ := pv
      rw [List.getElem?_map] at hx
      cases ek : (sortI (M.map (·.1)))[k]? with
      | none => rw [ek] at hx; cases hx
      | some key =>
        rw [ek] at hx
        cases hx
        obtain ⟨wo, eg, hm⟩ := get_mem (sortI_mem.mp (List.mem_of_getElem? ek))
        have hdd := sm _ _ (s1 _ _ hd)
        have et : (tabOf M)[k]? = some (key, wo) := by
          unfold tabOf
          rw [List.getElem?_map, ek]
          show some (key, (getM M key).getD 0) = _
          rw [eg]; rfl
        have nDd : D ≠ d := fun z => by rw [z, s1 _ _ hd] at hD; cases hD
        have lk : k < 64 := by rw [List.length_map] at lt2; omega
        refine ⟨rfl, d, .int wo, rfl, .inl ⟨_, .inl key, .inl hdd, rfl, by rw [val_kvs, eg]; rfl⟩, l2, fun t ht => ?_⟩
        have s2 := same_upd (o := .tup [V.int key, V.int wo]) ht
        have e2 := s2 _ _ hacc
        refine ⟨acc, e2, line_lt (by omega), same_put (sm.trans s2) hD, acc ++ [.ref t], upd_same, ?_, by rw [List.length_append, hlen]; rfl⟩
        have hn : DVs K (upd H' t (.tup [V.int key, V.int wo])) (acc ++ [.ref t]) (((tabOf M).take (k + 1)).map rowD) := by
          rw [List.take_add_one, et, List.map_append]
          exact (hdv.same s2).snoc (dv_row upd_same)
        exact hn.ts (TSame.lst e2) (noLs_map rowD noL_row _)
    · obtain ⟨sm, acc, hacc, hdv, hlen⟩ := pv
      rw [List.length_map] at hdv
      have lt3 : (tabOf M).length = (sortI (M.map (·.1))).length := List.length_map _
      rw [← lt3, List.take_length] at hdv
      refine ⟨acc, SqL.of hacc, fun l o hl hc hdn => q _ _ ((s1.trans sm).trans (same_upd hl)) (TabAt.mk hl hc hdn hdv)⟩
theorem ok__law_done (T : Txt K mg) : FnOk P w K mg base CX0 1 T.f__law_done T.fd__law_done ["rows", "changes"] (spDone K) := by
  refine T.F__law_done.ok sc__law_done (fun vs H Q E h => ?_) (fun cdv A outer s H vs Q E hr h => ?_)
  · obtain ⟨d, M, v, ks, cs, rfl, _⟩ := h
    rfl
  · obtain ⟨d, M, v, ks, cs, rfl, hd, hM, k60, hc, hv, q⟩ := h
    have hu := hu_of hr
    refine ⟨_, (pss_one (ps_for PassesOwn.never rfl (piT (K := K) (pn 1)) (pg_name (i := 2) sc__law_done.nd rfl (Or.inl rfl))
      (pss_one (ps_if (pt_cmpG (eqK (K := K) hr.units) (pe_ix (ixK (K := K)) (pn 2) pe_int (fun _ _ => rfl)) pe_str (nomark _))
      (pss_one (ps_dput hu (pn 0) (pe_ix (ixK (K := K)) (pn 2) pe_int (fun _ _ => rfl)) (pe_ix (ixK (K := K)) (pn 2) pe_int (fun _ _ => rfl)) rfl))
      (pss_one (ps_expr (pe_dpop2 (pn 0) (pe_ix (ixK (K := K)) (pn 2) pe_int (fun _ _ => rfl)) pe_non ⟨by rfl, by rfl, by rfl, by rfl⟩))))))), ?_⟩
    obtain ⟨a, xs, rfl, hs, hx⟩ := hv.chs
    have nad : ∀ {b : Addr} {ys : List V}, SqT K H b ys → ∀ N, SqT K (upd H d (.dK (kvM N))) b ys := fun {b ys} h N => sqT_ts (TSame.but hd (fun _ z => by cases z) (fun _ _ z => by cases z) fun a u n e => by rw [upd_ne n]; exact e) h
    have ts : ∀ N, TSame H (upd H d (.dK (kvM N))) := fun N => TSame.but hd (fun _ z => by cases z) (fun _ _ z => by cases z) fun a u n e => by rw [upd_ne n]; exact e
    have lx : xs.length = cs.length := by rw [hx.length, List.length_map]
    refine for_tup (K := K) xs hs (fun k σ H' => H' = upd H d (.dK (kvM ((cs.take k).foldl chM M))) ∧ ∃ x2, σ = [some (.ref d), some (.ref a), x2]) ⟨(upd_self hd).symm, _, rfl⟩ (fun k σ H' pv => by rw [pv.1]; exact ts _) (fun k x σ H' lt hxk pv => ?_) (fun σ H' pv => ?_)
    · obtain ⟨rfl, x2, rfl⟩ := pv
      obtain ⟨dc, e1, dv⟩ := hx.get hxk
      rw [List.getElem?_map] at e1
      cases ec : cs[k]? with
      | none => rw [ec] at e1; cases e1
      | some c =>
        rw [ec] at e1
        cases e1
        have dv2 := dv.ts (ts ((cs.take k).foldl chM M)) (noL_ch c)
        have hM2 : Mok ks ((cs.take k).foldl chM M) := hM.chs fun c hc2 => hc c (List.mem_of_mem_take hc2)
        have lM := hM2.len
        have nx := chs_get ec M
        generalize (cs.take k).foldl chM M = N at *
        have ed : (upd H d (.dK (kvM N))) d = some (.dK (kvM N)) := upd_same
        cases c with
        | put key wo =>
          obtain ⟨p, rfl, hs2⟩ := dv2.put
          refine ⟨_, _, .inr hs2, at0, ?_⟩
          refine ⟨_, _, .inr hs2, at2, _, _, .inr hs2, at1, d, _, rfl, .inl ⟨_, .inl key, ed, rfl, line_lt (by unfold kvM; rw [List.length_map]; omega), rfl⟩, ?_⟩
          rw [put_kvs, upd_upd]
          exact ⟨by rw [nx]; rfl, _, rfl⟩
        | drop key =>
          obtain ⟨p, rfl, hs2⟩ := dv2.drop
          refine ⟨_, _, .inr hs2, at0, ?_⟩
          refine ⟨d, rfl, .inl ⟨_, .inl ed⟩, _, _, .inr hs2, at1, kvM N, .inl key, ed, rfl, fun v e => ?_, fun e => ?_⟩
          · rw [drop_kvs, upd_upd]
            exact ⟨by rw [nx]; rfl, _, rfl⟩
          · have e2 : dropM N key = N := drop_none (by rw [val_kvs] at e; cases h : getM N key with | none => rfl | some _ => rw [h] at e; cases e)
            exact ⟨by rw [nx]; show _ = upd H d (.dK (kvM (dropM N key))); rw [e2], _, rfl⟩
    · obtain ⟨rfl, x2, rfl⟩ := pv
      rw [lx, List.take_length]
      exact q
theorem ok__law_groups (T : Txt K mg) : FnOk P w K mg base CX0 1 T.f__law_groups T.fd__law_groups ["log"] (spGroups K) := by
  refine T.F__law_groups.ok sc__law_groups (fun vs H Q E h => ?_) (fun cdv A outer s H vs Q E hr h => ?_)
  · obtain ⟨a, xs, es, rfl, _⟩ := h
    rfl
  · obtain ⟨a, xs, es, rfl, hs, hx, few, q⟩ := h
    have l0 : (0 : Nat) ≤ sizeLine := Nat.zero_le _
    have lx : xs.length = es.length := by rw [hx.length, List.length_map]
    refine ⟨_, (pss_one (ps_ret (pe_lc (own := [("entry", 1)]) rfl sc__law_groups.nd (piK (K := K) (pn 0)) (blkOk_by (own := [("entry", 1)]) (N := ["log", "entry"]) (sc := defScope s__law_groups) (by decide +kernel)) (fun _ _ _ _ _ => by exact (pg_name (i := 1) sc__law_groups.nd rfl (Or.inl rfl))) (fun _ _ _ _ _ => by exact pts_nil) (fun _ _ _ _ _ => by exact (pe_ifExp (pt_cmpG (eqK (K := K) hr.units) (pe_ix (ixK (K := K)) (pn 1) pe_int (fun _ _ => rfl)) pe_str (nomark _)) (pe_ix (ixK (K := K)) (pn 1) pe_int (fun _ _ => rfl)) (pe_tup pa_nil)))))), ?_⟩
    refine lc_sq (K := K) xs hs (fun k D H' => Same H H' ∧ ∃ acc, H' D = some (.lst acc) ∧ DVs K H' acc ((es.take k).map fun e => chsD (chsOf e)) ∧ acc.length = k)
      (fun D hD => ⟨same_upd hD, [], upd_same, .nil, rfl⟩) (fun k D H' hD pv o ho => pv.1 _ _ ho) (fun k x D H' lt hxk hD pv => ?_) (fun D H' hD pv => ?_)
    · obtain ⟨sm, acc, hacc, hdv, hlen⟩ := pv
      obtain ⟨dc, e1, dv⟩ := hx.get hxk
      rw [List.getElem?_map] at e1
      cases ec : es[k]? with
      | none => rw [ec] at e1; cases e1
      | some e =>
        rw [ec] at e1
        cases e1
        have dv2 := DV.same sm dv
        have fin : ∀ (y : V) (H2 : Hp), Same H' H2 → DV K H2 y (chsD (chsOf e)) → ∃ acc, H2 D = some (.lst acc) ∧ acc.length < sizeLine ∧ (Same H (upd H2 D (.lst (acc ++ [y]))) ∧ ∃ acc', (upd H2 D (.lst (acc ++ [y]))) D = some (.lst acc') ∧ DVs K (upd H2 D (.lst (acc ++ [y]))) acc' ((es.take (k + 1)).map fun e => chsD (chsOf e)) ∧ acc'.length = k + 1) := fun y H2 s2 hy => by
          have e2 := s2 _ _ hacc
          refine ⟨acc, e2, line_lt (by omega), same_put (sm.trans s2) hD, acc ++ [y], upd_same, ?_, by rw [List.length_append, hlen]; rfl⟩
          have hn : DVs K H2 (acc ++ [y]) ((es.take (k + 1)).map fun e => chsD (chsOf e)) := by
            rw [List.take_add_one, ec, List.map_append]
            exact (hdv.same s2).snoc hy
          exact hn.ts (TSame.lst e2) (noLs_map _ (fun e => noL_chs _) _)
        refine ⟨rfl, ?_⟩
        cases e with
        | group cs =>
          obtain ⟨p, x, rfl, hs2, hx2⟩ := dv2.group
          exact ⟨_, _, .inr hs2, at0, ⟨_, x, .inr hs2, at1, fin x H' (Same.refl _) hx2⟩⟩
        | mark lo l n =>
          obtain ⟨p, rfl, hs2⟩ := dv2.mark
          cases lo <;> exact ⟨_, _, .inr hs2, at0, ⟨l0, fun t ht => fin (.ref t) _ (same_upd ht) (.tup (.inl (.inl upd_same)) .nil)⟩⟩
    · obtain ⟨sm, acc, hacc, hdv, hlen⟩ := pv
      rw [lx, List.take_length] at hdv
      exact q D acc H' hD sm hacc hdv
theorem ok__law_at (T : Txt K mg) : FnOk P w K mg base CX0 2 T.f__law_at T.fd__law_at ["table", "log", "place"] (spAt K) := by
  refine T.F__law_at.ok sc__law_at (fun vs H Q E h => ?_) (fun cdv A outer s H vs Q E hr h => ?_)
  · obtain ⟨ks, v, rows, a, xs, es, n, rfl, _⟩ := h
    rfl
  · obtain ⟨ks, v, rows, a, xs, es, n, rfl, ⟨ht, hrows, k60, ha, hx, hin, few⟩, hn, q⟩ := h
    refine ⟨_, (pss_cons (ps_set (i := 3) sc__law_at.nd rfl (Or.inl rfl) (pe_callTy (dictTK (K := K)) (by rfl) T.z_dict Tc.boot_dict (pa_cons (pn 0) pa_nil)))
      (pss_cons (ps_for PassesOwn.never rfl (piK (K := K) (pe_slice (slK (K := K)) (pe_call (ok__law_groups T) hr (by rfl) T.g__law_groups T.F__law_groups.kp T.b__law_groups .nil pass0 (pa_cons (pn 1) pa_nil)) po_none (po_G (pn 2)))) (pg_name (i := 4) sc__law_at.nd rfl (Or.inl rfl))
      (pss_one (ps_expr (pe_call (ok__law_done T) hr (by rfl) T.g__law_done T.F__law_done.kp T.b__law_done .nil pass0 (pa_cons (pn 3) (pa_cons (pn 4) pa_nil))))))
      (pss_one (ps_ret (pe_call (ok__law_pairs T) hr (by rfl) T.g__law_pairs T.F__law_pairs.kp T.b__law_pairs .nil pass0 (pa_cons (pn 3) pa_nil)))))), ?_⟩
    obtain ⟨a0, ps, rfl, hf, hp⟩ := ht
    refine ⟨ps, kvM rows, hf, paired_kvs hp, fun d hd => ?_⟩
    rw [merge_kvs]
    have s1 := same_upd (o := .dK (kvM (normM rows))) hd
    have ed : (upd H d (.dK (kvM (normM rows)))) d = some (.dK (kvM (normM rows))) := upd_same
    generalize upd H d (.dK (kvM (normM rows))) = H1 at s1 ed
    refine ⟨a, xs, es, rfl, .inl (SqL.of (s1 _ _ ha)), DVs.same s1 hx, by omega, fun G ys H2 nG s2 eG hy => ?_⟩
    have ly : ys.length = es.length := by rw [hy.length, List.length_map]
    refine Or.inl ⟨ys, SqL.of eG, fun L nL => ?_⟩
    rw [cut_lo ys n (by omega) (by rw [ly]; omega), Int.toNat_natCast]
    have s3 := same_upd (o := .lst (ys.take n)) nL
    have ed3 := s3 _ _ (s2 _ _ ed)
    have hy3 := DVs.same s3 hy
    have S3 := (s1.trans s2).trans s3
    have nLd : L ≠ d := fun z => by rw [z, s2 _ _ ed] at nL; cases nL
    have eL : (upd H2 L (.lst (ys.take n))) L = some (.lst (ys.take n)) := upd_same
    generalize upd H2 L (.lst (ys.take n)) = H3 at ed3 hy3 S3 eL
    have ok : ∀ k, Mok ks (logM (normM rows) (es.take k)) := fun k => (Mok.norm hrows).log fun e he => hin e (List.mem_of_mem_take he)
    refine for_sq (K := K) (ys.take n) (.inl (SqL.of eL)) (fun k σ H' => H' = upd H3 d (.dK (kvM (logM (normM rows) (es.take k)))) ∧ ∃ x4, σ = [some (.ref a0), some (.ref a), some (.int n), some (.ref d), x4]) ⟨(upd_self ed3).symm, _, rfl⟩ (fun k σ H' pv o ho => by rw [pv.1, upd_ne nLd]; exact ho) (fun k x σ H' lt hxk pv => ?_) (fun σ H' pv => ?_)
    · obtain ⟨rfl, x4, rfl⟩ := pv
      have kn : k < n := by rw [List.length_take] at lt; omega
      rw [List.getElem?_take_of_lt kn] at hxk
      obtain ⟨dc, e1, dv⟩ := hy3.get hxk
      rw [List.getElem?_map] at e1
      cases ec : es[k]? with
      | none => rw [ec] at e1; cases e1
      | some e =>
        rw [ec] at e1
        cases e1
        refine ⟨d, _, x, ks, chsOf e, rfl, upd_same, ok k, k60, (hin e (List.mem_of_getElem? ec)).chs, dv.ts (dK_ts ed3) (noL_chs _), ?_⟩
        rw [upd_upd, ← tabAt_succ ec]
        exact ⟨rfl, _, rfl⟩
    · obtain ⟨rfl, x4, rfl⟩ := pv
      have ln : (ys.take n).length = n := by rw [List.length_take, ly]; omega
      rw [ln]
      exact ⟨d, _, rfl, upd_same, (ok n).1, by have := (ok n).len; omega, fun u H' sm tab => q u H' ((same_put S3 hd).trans sm) tab⟩
theorem ok__law_tables (T : Txt K mg) : FnOk P w K mg base CX0 3 T.f__law_tables T.fd__law_tables ["table", "log"] (spTabs K) := by
  refine T.F__law_tables.ok sc__law_tables (fun vs H Q E h => ?_) (fun cdv A outer s H vs Q E hr h => ?_)
  · obtain ⟨ks, v, rows, a, xs, es, rfl, _⟩ := h
    rfl
  · obtain ⟨ks, v, rows, a, xs, es, rfl, hL, q⟩ := h
    have ⟨ht, hrows, k60, ha, hx, hin, few⟩ := hL
    have lx : xs.length = es.length := by rw [hx.length, List.length_map]
    refine ⟨_, (pss_one (ps_ret (pe_lc (own := [("place", 2)]) rfl sc__law_tables.nd (pi_range1 (by rfl) T.z_range (pa_cons (pe_op (addK (K := K)) (pe_callB (lenK (K := K)) (by rfl) T.z_len Tc.boot_len (pa_cons (pn 1) pa_nil)) pe_int) pa_nil)) (blkOk_by (own := [("place", 2)]) (N := ["table", "log", "place"]) (sc := defScope s__law_tables) (by decide +kernel)) (fun _ _ _ _ _ => by exact (pg_name (i := 2) sc__law_tables.nd rfl (Or.inl rfl))) (fun _ _ _ _ _ => by exact pts_nil) (fun _ _ _ _ _ => by exact (pe_call (ok__law_at T) hr (by rfl) T.g__law_at T.F__law_at.kp T.b__law_at .nil pass0 (pa_cons (pn 0) (pa_cons (pn 1) (pa_cons (pn 2) pa_nil)))))))), ?_⟩
    refine ⟨_, .inl (SqL.of ha), _, rfl, by omega, by omega, ?_⟩
    have en : ((xs.length : Int) + 1).toNat = es.length + 1 := by omega
    rw [en]
    refine lc_rng (lo := 0) (n := es.length + 1) (fun k D H' => Same H H' ∧ ∃ acc, H' D = some (.lst acc) ∧ Tabs K H' acc (tabsAt rows es k)) (fun D hD => ⟨same_upd hD, [], upd_same, .nil⟩) (fun k D H' lt hD pv => ?_) (fun D H' hD pv => ?_)
    · obtain ⟨sm, acc, hacc, ht2⟩ := pv
      refine ⟨rfl, ?_⟩
      refine ⟨ks, v, rows, a, xs, es, k, by rw [Int.zero_add]; rfl, hL.same sm, by omega, fun u H2 s2 tab => ?_⟩
      have e2 := s2 _ _ hacc
      have la : acc.length = k := by rw [ht2.length]; unfold tabsAt; rw [List.length_map, List.length_range]
      have tn : Tabs K H2 (acc ++ [u]) (tabsAt rows es (k + 1)) := by
        unfold tabsAt
        rw [List.range_succ, List.map_append]
        exact (ht2.same s2).snoc tab
      exact ⟨acc, e2, line_lt (by omega), same_put (sm.trans s2) hD, acc ++ [u], upd_same, tn.lst e2⟩
    · obtain ⟨sm, acc, hacc, ht2⟩ := pv
      exact q D acc H' hD sm hacc ht2
theorem ok_all_tables (T : Txt K mg) : FnOk P w K mg base CX0 2 T.f_all_tables T.fd_all_tables ["table", "log"] (spTabs K) := by
  refine T.F_all_tables.ok sc_all_tables (fun vs H Q E h => ?_) (fun cdv A outer s H vs Q E hr h => ?_)
  · obtain ⟨ks, v, rows, a, xs, es, rfl, _⟩ := h
    rfl
  · obtain ⟨ks, v, rows, a, xs, es, rfl, ⟨ht, hrows, k60, ha, hx, hin, few⟩, q⟩ := h
    have l1 : (1 : Nat) ≤ sizeLine := line_le (by decide)
    have lx : xs.length = es.length := by rw [hx.length, List.length_map]
    refine ⟨_, (pss_cons (ps_set (i := 2) sc_all_tables.nd rfl (Or.inl rfl) (pe_callTy (dictTK (K := K)) (by rfl) T.z_dict Tc.boot_dict (pa_cons (pn 0) pa_nil)))
      (pss_cons (ps_set (i := 3) sc_all_tables.nd rfl (Or.inl rfl) (pe_lst (pa_cons (pe_call (ok_pairs_of T) hr (by rfl) T.g_pairs_of T.F_pairs_of.kp T.b_pairs_of .nil pass0 (pa_cons (pn 2) pa_nil)) pa_nil)))
      (pss_cons (ps_for PassesOwn.never rfl (piK (K := K) (pn 1)) (pg_name (i := 4) sc_all_tables.nd rfl (Or.inl rfl))
      (pss_cons (ps_for PassesOwn.never rfl (piT (K := K) (pe_call (ok_changes_of T) hr (by rfl) T.g_changes_of T.F_changes_of.kp T.b_changes_of .nil pass0 (pa_cons (pn 4) pa_nil))) (pg_name (i := 5) sc_all_tables.nd rfl (Or.inl rfl))
      (pss_one (ps_expr (pe_call (ok_put_change T) hr (by rfl) T.g_put_change T.F_put_change.kp T.b_put_change .nil pass0 (pa_cons (pn 2) (pa_cons (pn 5) pa_nil))))))
      (pss_one (ps_expr (pe_bm PySem.F.plainAttrs_list PySem.F.slot_list_append PySem.F.type_list_append mt_append (pn 3) (pa_cons (pe_call (ok_pairs_of T) hr (by rfl) T.g_pairs_of T.F_pairs_of.kp T.b_pairs_of .nil pass0 (pa_cons (pn 2) pa_nil)) pa_nil))))))
      (pss_one (ps_ret (pn 3)))))), ?_⟩
    obtain ⟨a0, ps, rfl, hf, hp⟩ := ht
    refine ⟨ps, kvM rows, hf, paired_kvs hp, fun d hd => ?_⟩
    rw [merge_kvs]
    have s1 := same_upd (o := .dK (kvM (normM rows))) hd
    have ed : (upd H d (.dK (kvM (normM rows)))) d = some (.dK (kvM (normM rows))) := upd_same
    generalize upd H d (.dK (kvM (normM rows))) = H1 at s1 ed
    have ok : ∀ k, Mok ks (logM (normM rows) (es.take k)) := fun k => (Mok.norm hrows).log fun e he => hin e (List.mem_of_mem_take he)
    have ok0 : Mok ks (normM rows) := Mok.norm hrows
    refine ⟨d, normM rows, rfl, ed, ok0.1, by have := ok0.len; omega, fun u H2 s2 tab => ⟨l1, fun F nF => ?_⟩⟩
    have s3 := same_upd (o := .lst [u]) nF
    have S3 := (s1.trans s2).trans s3
    have ed3 := s3 _ _ (s2 _ _ ed)
    have eF : (upd H2 F (.lst [u])) F = some (.lst [u]) := upd_same
    have nFH : H F = none := s1.free (s2.free nF)
    have nFd : F ≠ d := fun z => by rw [z, s2 _ _ ed] at nF; cases nF
    have tab3 : Tabs K (upd H2 F (.lst [u])) [u] (tabsAt rows es 1) := .cons (tab.same s3) .nil
    generalize upd H2 F (.lst [u]) = H3 at ed3 eF S3 tab3
    refine for_sq (K := K) xs (.inl (SqL.of (S3 _ _ ha))) (fun k σ H' => Same H H' ∧ ∃ acc x4 x5, σ = [some (.ref a0), some (.ref a), some (.ref d), some (.ref F), x4, x5] ∧ H' d = some (.dK (kvM (logM (normM rows) (es.take k)))) ∧ H' F = some (.lst acc) ∧ Tabs K H' acc (tabsAt rows es (k + 1))) ⟨S3, [u], _, _, rfl, ed3, eF, tab3⟩
      (fun k σ H' pv o ho => by rw [S3 _ _ ha] at ho; cases ho; exact pv.1 _ _ ha) (fun k x σ H' lt hxk pv => ?_) (fun σ H' pv => ?_)
    · obtain ⟨sm, acc, x4, x5, rfl, edk, eFk, tabk⟩ := pv
      obtain ⟨dc, e1, dv⟩ := hx.get hxk
      rw [List.getElem?_map] at e1
      cases ec : es[k]? with
      | none => rw [ec] at e1; cases e1
      | some e =>
        rw [ec] at e1
        cases e1
        have hce := (hin e (List.mem_of_getElem? ec)).chs
        refine ⟨x, e, rfl, DV.same sm dv, fun y H4 s4 hy => ?_⟩
        obtain ⟨p, zs, rfl, hzs, hz⟩ := hy.chs
        have lz : zs.length = (chsOf e).length := by rw [hz.length, List.length_map]
        have ed4 := s4 _ _ edk
        have S4 := sm.trans s4
        have eF4 := s4 _ _ eFk
        have tab4 := tabk.same s4
        have okk := ok k
        have nx := tabAt_succ (rows := rows) ec
        generalize logM (normM rows) (es.take k) = N at *
        refine for_tup (K := K) zs hzs (fun j σ H5 => H5 = upd H4 d (.dK (kvM (((chsOf e).take j).foldl chM N))) ∧ ∃ z5, σ = [some (.ref a0), some (.ref a), some (.ref d), some (.ref F), some x, z5]) ⟨(upd_self ed4).symm, _, rfl⟩ (fun j σ H5 pv => by rw [pv.1]; exact dK_ts ed4) (fun j z σ H5 ltj hzj pv => ?_) (fun σ H5 pv => ?_)
        · obtain ⟨rfl, z5, rfl⟩ := pv
          obtain ⟨dz, e2, dvz⟩ := hz.get hzj
          rw [List.getElem?_map] at e2
          cases ecz : (chsOf e)[j]? with
          | none => rw [ecz] at e2; cases e2
          | some c =>
            rw [ecz] at e2
            cases e2
            have lM := (okk.chs (cs := (chsOf e).take j) fun c hc => hce c (List.mem_of_mem_take hc)).len
            refine ⟨d, _, z, c, rfl, upd_same, by omega, dvz.ts (dK_ts ed4) (noL_ch c), ?_⟩
            rw [upd_upd, ← chs_get ecz]
            exact ⟨rfl, _, rfl⟩
        · obtain ⟨rfl, z5, rfl⟩ := pv
          rw [lz, List.take_length, ← nx]
          have okn := ok (k + 1)
          have S5 : Same H (upd H4 d (.dK (kvM (logM (normM rows) (es.take (k + 1)))))) := same_put S4 hd
          have eF5 : (upd H4 d (.dK (kvM (logM (normM rows) (es.take (k + 1)))))) F = some (.lst acc) := by rw [upd_ne nFd]; exact eF4
          refine ⟨.inl ⟨rfl, _, SqL.of eF5⟩, d, _, rfl, upd_same, okn.1, by have := okn.len; omega, fun u6 H6 s6 tab6 => ?_⟩
          have eF6 := s6 _ _ eF5
          have ed6 := s6 _ _ (upd_same (H := H4) (a := d) (o := .dK (kvM (logM (normM rows) (es.take (k + 1))))))
          have la : acc.length = k + 1 := by rw [tabk.length]; unfold tabsAt; rw [List.length_map, List.length_range]
          refine ⟨F, acc, u6, rfl, rfl, eF6, line_lt (by omega), same_put (S5.trans s6) nFH, acc ++ [u6], _, _, rfl, by rw [upd_ne (Ne.symm nFd)]; exact ed6, upd_same, ?_⟩
          have tn : Tabs K H6 (acc ++ [u6]) (tabsAt rows es (k + 1 + 1)) := by
            have z : tabsAt rows es (k + 1 + 1) = tabsAt rows es (k + 1) ++ [tabAt rows es (k + 1)] := by
              unfold tabsAt
              rw [List.range_succ, List.map_append]; rfl
            rw [z]
            exact ((tab4.dK ed4).same s6).snoc tab6
          exact tn.lst eF6
    · obtain ⟨sm, acc, x4, x5, rfl, edk, eFk, tabk⟩ := pv
      rw [lx] at tabk
      exact q F acc H' nFH sm eFk tabk

end

section
variable {P : Program} {w : World} {K : PySem.W.Frag} {mg : Str → Option Value} {base : Heap}
theorem ok_found_at (T : Txt K mg) : FnOk P w K mg base CX0 1 T.f_found_at T.fd_found_at ["rows", "first", "last"] (spFound K) := by
  refine T.F_found_at.ok sc_found_at (fun vs H Q E h => ?_) (fun cdv A outer s H vs Q E hr h => ?_)
  · obtain ⟨v, t, f, l, rfl, _⟩ := h
    rfl
  · obtain ⟨v, t, f, l, rfl, ⟨a, ps, rfl, hf, hp⟩, q⟩ := h
    refine ⟨_, (pss_cons (ps_for PassesOwn.never rfl (piK (K := K) (pn 0)) (pg_name (i := 3) sc_found_at.nd rfl (Or.inl rfl))
      (pss_one (ps_if (pt_chainG op_leG op_ltG (pn 1) (pe_ix (ixK (K := K)) (pn 3) pe_int (fun _ _ => rfl)) (pn 2))
      (pss_one (ps_ret (pn 3)))
      pss_nil)))
      (pss_one (ps_ret pe_non))), ?_⟩
    have lp : (ps.map V.ref).length = t.length := by rw [List.length_map]; exact hp.length
    refine for_sq (K := K) (ps.map V.ref) (.inr hf.sqT) (fun k σ H' => H' = H ∧ (t.take k).find? (hitR f l) = none ∧ ∃ x3, σ = [some (.ref a), some (.int f), some (.int l), x3]) ⟨rfl, rfl, _, rfl⟩ (fun k σ H' pv o ho => by rw [pv.1]; exact ho) (fun k x σ H' lt hx pv => ?_) (fun σ H' pv => ?_)
    · obtain ⟨rfl, hn, x3, rfl⟩ := pv
      obtain ⟨p, r, rfl, er, hs⟩ := paired_get hp hx
      have hit : hitR f l r = (decide (f ≤ r.1) && decide (r.1 < l)) := rfl
      refine ⟨_, _, .inr hs, at0, ite2 (fun e1 => ite2 (fun e2 => ?_) (fun e2 => ?_)) (fun e1 => ?_)⟩
      · have z : findM t f l = some r := find_at hn er (by rw [hit, e1, e2]; rfl)
        rw [z] at q
        exact q _ ⟨p, rfl, hs⟩
      · exact ⟨rfl, find_not hn er (by rw [hit, not_true e2, Bool.and_false]), _, rfl⟩
      · exact ⟨rfl, find_not hn er (by rw [hit, not_true e1, Bool.false_and]), _, rfl⟩
    · obtain ⟨rfl, hn, x3, rfl⟩ := pv
      rw [lp, List.take_length] at hn
      have z : findM t f l = none := hn
      rw [z] at q
      exact q _ rfl
theorem ok__law_find (T : Txt K mg) : FnOk P w K mg base CX0 1 T.f__law_find T.fd__law_find ["rows", "first", "last"] (spLFind K) := by
  refine T.F__law_find.ok sc__law_find (fun vs H Q E h => ?_) (fun cdv A outer s H vs Q E hr h => ?_)
  · obtain ⟨v, t, f, l, rfl, _⟩ := h
    rfl
  · obtain ⟨v, t, f, l, rfl, ⟨a, ps, rfl, hf, hp⟩, few, q⟩ := h
    refine ⟨_, (pss_one (ps_ret (pe_slice (slK (K := K)) (pe_lc (own := [("pair", 3)]) rfl sc__law_find.nd (piK (K := K) (pn 0)) (blkOk_by (own := [("pair", 3)]) (N := ["rows", "first", "last", "pair"]) (sc := defScope s__law_find) (by decide +kernel)) (fun _ _ _ _ _ => by exact (pg_name (i := 3) sc__law_find.nd rfl (Or.inl rfl))) (fun _ _ _ _ _ => by exact (pts_one (pt_chainG op_leG op_ltG (pn 1) (pe_ix (ixK (K := K)) (pn 3) pe_int (fun _ _ => rfl)) (pn 2)))) (fun _ _ _ _ _ => by exact (pn 3))) po_none (po_G pe_int)))), ?_⟩
    have hlen := hp.length
    obtain ⟨z1, z2, z3⟩ := paired_zip hp
    have fo := filt_one (hitR f l) ((ps.map V.ref).zip t)
    rw [z2] at fo
    refine lc_filter ((ps.map V.ref).zip t) (fun z => hitR f l z.2) (fun z => z.1) (by rw [z1]; exact .inr hf.sqT) (by rw [← List.length_map (f := (·.2)), z2]; exact line_lt (by omega)) (by intro _; rfl) (fun z H' hz sm Qe qe => ?_) (fun z H' hz sm e Qe qe => ?_) (fun D hD => ?_)
    · obtain ⟨p, e1, hs⟩ := z3 z hz
      rw [e1]
      have qe : Qe (decide (f ≤ z.2.1) && decide (z.2.1 < l)) H' := qe
      refine ⟨_, _, .inr (same_tup sm hs), at0, ite2 (fun c1 => ?_) (fun c1 => ?_)⟩
      · rw [c1, Bool.true_and] at qe
        exact qe
      · rw [not_true c1, Bool.false_and] at qe
        exact qe
    · exact qe
    · refine Or.inl ⟨_, SqL.of upd_same, fun L nL => ?_⟩
      rw [cut_one]
      have s1 := same_upd (o := .lst ((((ps.map V.ref).zip t).filter fun z => hitR f l z.2).map fun z => z.1)) hD
      have s2 := s1.trans (same_upd (o := .lst (((((ps.map V.ref).zip t).filter fun z => hitR f l z.2).map fun z => z.1).take 1)) nL)
      refine q L _ _ (s1.free nL) s2 upd_same ?_
      show match t.find? (hitR f l) with
        | none => _
        | some r => _
      revert fo
      cases t.find? (hitR f l) with
      | none =>
        intro fo
        show List.take 1 _ = []
        rw [fo]; rfl
      | some r =>
        rintro ⟨x, rest, e1, e2⟩
        obtain ⟨p, e3, hs⟩ := z3 _ e2
        have e3 : x = .ref p := e3
        subst e3
        exact ⟨p, by rw [e1]; rfl, same_tup s2 hs⟩
theorem ok__law_read (T : Txt K mg) : FnOk P w K mg base CX0 2 T.f__law_read T.fd__law_read ["tables", "stretch", "times"] (spLRead K) := by
  refine T.F__law_read.ok sc__law_read (fun vs H Q E h => ?_) (fun cdv A outer s H vs Q E hr h => ?_)
  · obtain ⟨tb, st, mo, ys, ts, f, l, ms, rfl, _⟩ := h
    rfl
  · obtain ⟨tb, st, mo, ys, ts, f, l, ms, rfl, eD, tabs, flen, hst, hmo, hms, few, q⟩ := h
    have l0 : (0 : Nat) ≤ sizeLine := Nat.zero_le _
    refine ⟨_, (pss_cons (ps_asg (pn 1) (tupTK (K := K) (n := 2) rfl (pgs_cons (pg_name (i := 3) sc__law_read.nd rfl (Or.inl rfl)) (pgs_cons (pg_name (i := 4) sc__law_read.nd rfl (Or.inl rfl)) pgs_nil))))
      (pss_cons (ps_set (i := 5) sc__law_read.nd rfl (Or.inl rfl) (pe_lst pa_nil))
      (pss_cons (ps_for PassesOwn.never rfl (enumTK (K := K) (by rfl) T.z_enumerate (pa_cons (pn 2) pa_nil)) (tupTK (K := K) (n := 2) rfl (pgs_cons (pg_name (i := 6) sc__law_read.nd rfl (Or.inl rfl)) (pgs_cons (pg_name (i := 7) sc__law_read.nd rfl (Or.inl rfl)) pgs_nil)))
      (pss_cons (ps_set (i := 8) sc__law_read.nd rfl (Or.inl rfl) (pe_call (ok__law_find T) hr (by rfl) T.g__law_find T.F__law_find.kp T.b__law_find .nil pass0 (pa_cons (pe_ix (ixK (K := K)) (pn 0) (pn 7) (fun _ _ => rfl)) (pa_cons (pn 3) (pa_cons (pn 4) pa_nil)))))
      (pss_cons (ps_if (pt_cmpG (eqK (K := K) hr.units) (pn 8) (pe_lst pa_nil) (nomark _))
      (pss_one (ps_ret (pe_ifExp (pt_cmpG (eqK (K := K) hr.units) (pn 6) (pe_op op_subG (pe_callB (lenK (K := K)) (by rfl) T.z_len Tc.boot_len (pa_cons (pn 2) pa_nil)) pe_int) (nomark _)) (pe_callTy (tupleK (K := K)) (by rfl) T.z_tuple Tc.boot_tuple (pa_cons (pn 5) pa_nil)) pe_non)))
      pss_nil)
      (pss_cons (ps_expr (pe_bm PySem.F.plainAttrs_list PySem.F.slot_list_append PySem.F.type_list_append mt_append (pn 5) (pa_cons (pe_ix (ixK (K := K)) (pn 8) pe_int (fun _ _ => rfl)) pa_nil)))
      (pss_one (ps_set (i := 3) sc__law_read.nd rfl (Or.inl rfl) (pe_op (addK (K := K)) (pe_ix (ixK (K := K)) (pe_ix (ixK (K := K)) (pn 8) pe_int (fun _ _ => rfl)) pe_int (fun _ _ => rfl)) pe_int)))))))
      (pss_one (ps_ret pe_non))))), ?_⟩
    have li : (ms.map fun (m : Nat) => V.int m).length = ms.length := List.length_map _
    refine ⟨st, _, rfl, hst, rfl, _, _, rfl, _, _, rfl, rfl, l0, fun R nR => ?_⟩
    have s0 := same_upd (o := .lst []) nR
    refine for_enT (K := K) (ms.map fun (m : Nat) => V.int m) (same_tup s0 hmo) (fun k σ H' => Same H H' ∧ ∃ (rs : List Rw) (f' : Int) (acc : List V) (x6 x7 x8 : Option V), σ = [some (.ref tb), some (.ref st), some (.ref mo), some (.int f'), some (.int l), some (.ref R), x6, x7, x8] ∧ H' R = some (.lst acc) ∧ DVs K H' acc (rs.map rowD) ∧ rs.length = k ∧ readM ts l f ms = (readM ts l f' (ms.drop k)).map (rs ++ ·))
      ⟨s0, [], f, [], _, _, _, rfl, upd_same, .nil, rfl, by rw [List.drop_zero]; cases readM ts l f ms <;> rfl⟩ (fun k σ H' pv => ts_base nR pv.1) (fun k x T0 σ H' lt hx pv hT => ?_) (fun σ H' pv => ?_)
    · obtain ⟨sm, rs, f', acc, x6, x7, x8, rfl, eR, hd, hl, hrd⟩ := pv
      rw [List.getElem?_map] at hx
      cases em : ms[k]? with
      | none => rw [em] at hx; cases hx
      | some m =>
        rw [em] at hx
        cases hx
        rw [li] at lt
        rw [drop_at em] at hrd
        have lm := hms m (List.mem_of_getElem? em)
        have s1 := same_upd (o := .tup [.int (k : Nat), .int (m : Nat)]) hT
        have S1 := sm.trans s1
        have eR1 := s1 _ _ eR
        have hd1 := hd.same s1
        refine ⟨T0, _, rfl, SqT.of upd_same, rfl, _, _, rfl, _, _, rfl, rfl, ?_⟩
        generalize upd H' T0 (.tup [.int (k : Nat), .int (m : Nat)]) = H1 at *
        obtain ⟨vt, evt, tab⟩ := tabs_get (tabs.same S1) lm
        have ft : (ts.getD m []).length ≤ 1000 := by
          have e : ts[m]? = some (ts.getD m []) := by rw [List.getD_eq_getElem?_getD, List.getElem?_eq_getElem lm]; rfl
          exact flen _ (List.mem_of_getElem? e)
        refine ⟨ys, vt, .inl (SqL.of (S1 _ _ eD)), atI_nat evt, vt, _, f', l, rfl, tab, ft, fun F zs H2 nF s2 eF hz => ⟨l0, fun E0 hE => ?_⟩⟩
        have s3 := same_upd (o := .lst []) hE
        have S3 := (S1.trans s2).trans s3
        have eF3 := s3 _ _ eF
        have eR3 := s3 _ _ (s2 _ _ eR1)
        have hd3 := (hd1.same s2).same s3
        have nRF : R ≠ F := fun z => by rw [z, nF] at eR1; cases eR1
        cases ef : findM (ts.getD m []) f' l with
        | none =>
          rw [ef] at hz
          have hz : zs = [] := hz
          subst hz
          refine ⟨.list [], .list [], .lst (SqL.of eF3) .nil, .lst (SqL.of upd_same) .nil, .inr (by show 0 + 1 ≤ 60; omega), ?_⟩
          refine ⟨_, .inr (same_tup S3 hmo), ite2 (fun c => ?_) (fun c => ?_)⟩
          · have c : (k : Int) = ((ms.map fun (m : Nat) => V.int m).length : Int) - 1 := of_decide_eq_true c
            rw [li] at c
            have dn : ms.drop (k + 1) = [] := List.drop_eq_nil_of_le (by omega)
            rw [dn, readM_stop ef] at hrd
            have hrd : readM ts l f ms = some (rs ++ []) := hrd
            rw [List.append_nil] at hrd
            rw [hrd] at q
            refine Or.inl ⟨acc, SqL.of eR3, fun t ht => q _ _ (S3.trans (same_upd ht)) ?_⟩
            exact .tup (.inl (.inl upd_same)) (hd3.same (same_upd ht))
          · have dn : ms.drop (k + 1) ≠ [] := fun z => c (decide_eq_true (by
              have := congrArg List.length z
              rw [List.length_drop] at this
              simp at this
              rw [li]
              omega))
            rw [readM_none ef dn] at hrd
            rw [hrd] at q
            exact q _ _ S3 rfl
        | some r =>
          rw [ef] at hz
          obtain ⟨p, rfl, hp⟩ := hz
          have hp3 := same_tup s3 hp
          rw [readM_some ef, map_app] at hrd
          refine ⟨.list [rowD r], .list [], .lst (SqL.of eF3) (.cons (dv_of_row hp3).dp .nil), .lst (SqL.of upd_same) .nil, .inr (by show 0 + 1 ≤ 60; omega), ?_⟩
          refine ⟨.inl ⟨rfl, _, SqL.of eR3⟩, _, _, .inl (SqL.of eF3), at0, R, acc, _, rfl, rfl, eR3, line_lt (by rw [hd.length, List.length_map]; omega), ?_⟩
          have eF4 : (upd (upd H2 E0 (.lst [])) R (.lst (acc ++ [.ref p]))) F = some (.lst [.ref p]) := by rw [upd_ne nRF.symm]; exact eF3
          have hp4 : SqT K (upd (upd H2 E0 (.lst [])) R (.lst (acc ++ [.ref p]))) p [.int r.1, .int r.2] := sqT_ts (TSame.lst eR3) hp3
          refine ⟨_, _, .inl (SqL.of eF4), at0, _, _, .inr hp4, at0, same_put S3 nR, rs ++ [r], _, _, _, _, _, rfl, upd_same, ?_, by rw [List.length_append, hl]; rfl, hrd⟩
          have hn : DVs K (upd H2 E0 (.lst [])) (acc ++ [.ref p]) ((rs ++ [r]).map rowD) := by
            rw [List.map_append]
            exact hd3.snoc (dv_of_row hp3)
          exact hn.ts (TSame.lst eR3) (noLs_map rowD noL_row _)
    · obtain ⟨sm, rs, f', acc, x6, x7, x8, rfl, eR, hd, hl, hrd⟩ := pv
      rw [li, List.drop_length] at hrd
      have hrd : readM ts l f ms = none := hrd
      rw [hrd] at q
      exact q _ _ sm rfl

end

section
variable {P : Program} {w : World} {K : PySem.W.Frag} {mg : Str → Option Value} {base : Heap}
theorem ok__law_stretch (T : Txt K mg) : FnOk P w K mg base CX0 3 T.f__law_stretch T.fd__law_stretch ["bag", "keys"] spStretch := by
  refine T.F__law_stretch.ok sc__law_stretch (fun vs H Q E h => ?_) (fun cdv A outer s H vs Q E hr h => ?_)
  · obtain ⟨b, p, ks, rfl, _⟩ := h
    rfl
  · obtain ⟨b, p, ks, rfl, hb, hp, kin, k0, k1, q⟩ := h
    have l2 : (2 : Nat) ≤ sizeLine := line_le (by decide)
    have l3 : (3 : Nat) ≤ sizeLine := line_le (by decide)
    refine ⟨_, (pss_cons (ps_set (i := 2) sc__law_stretch.nd rfl (Or.inl rfl) (pe_ix (ixK (K := K)) (pe_lst (pa_cons (pe_call (ok__law_of T) hr (by rfl) T.g__law_of T.F__law_of.kp T.b__law_of .nil pass0 (pa_cons (pn 0) (pa_cons (pn 1) pa_nil))) (pa_cons pe_int (pa_cons (pe_call (ok__law_take T) (hr.mono (by decide)) (by rfl) T.g__law_take T.F__law_take.kp T.b__law_take .nil pass0 (pa_cons (pn 0) (pa_cons pe_int pa_nil))) pa_nil)))) (pe_call (ok__law_take T) (hr.mono (by decide)) (by rfl) T.g__law_take T.F__law_take.kp T.b__law_take .nil pass0 (pa_cons (pn 0) (pa_cons pe_int pa_nil))) (fun _ _ => rfl)))
      (pss_cons (ps_set (i := 3) sc__law_stretch.nd rfl (Or.inl rfl) (pe_ix (ixK (K := K)) (pe_lst (pa_cons pe_int (pa_cons (pe_op (addK (K := K)) pe_int (pe_call (ok__law_take T) (hr.mono (by decide)) (by rfl) T.g__law_take T.F__law_take.kp T.b__law_take .nil pass0 (pa_cons (pn 0) (pa_cons pe_int pa_nil)))) (pa_cons pe_int pa_nil)))) (pe_call (ok__law_take T) (hr.mono (by decide)) (by rfl) T.g__law_take T.F__law_take.kp T.b__law_take .nil pass0 (pa_cons (pn 0) (pa_cons pe_int pa_nil))) (fun _ _ => rfl)))
      (pss_one (ps_ret (pe_tup (pa_cons (pn 2) (pa_cons (pe_callB (call_min2G rfl) (by rfl) T.z_min Tc.boot_min (pa_cons pe_int (pa_cons (pe_op (addK (K := K)) (pn 2) (pn 3)) pa_nil))) pa_nil))))))), ?_⟩
    refine ⟨b, p, _, rfl, hb, hp.sqAt, by rw [List.length_map]; exact k0, by rw [List.length_map]; omega, fun x H1 hx g1 => ?_⟩
    obtain ⟨key, hkey, rfl⟩ := List.mem_map.mp hx
    have hk := kin key hkey
    refine ⟨b, 1000, rfl, g1.1, by decide, by decide, fun r1 H2 r10 r11 g2 => ⟨l3, fun L hL => ?_⟩⟩
    have G2 := g1.trans g2
    have nL := G2.1.ne hL
    have g3 := Gr.new (o := .lst [.int key, .int 0, .int r1]) G2.1 hL
    refine ⟨b, 3, rfl, g3.1, by decide, by decide, fun r2 H3 r20 r21 g4 => ?_⟩
    have eL := g4.2 _ _ nL upd_same
    obtain ⟨f, hf, ef⟩ := pickI [key, 0, r1] r20 r21
    have f1 : 0 ≤ f ∧ f ≤ 999 := by
      simp only [List.mem_cons, List.not_mem_nil, or_false] at hf
      rcases hf with rfl | rfl | rfl <;> omega
    have G4 := (G2.trans g3).trans g4
    refine ⟨_, _, .inl (SqL.of eL), ef, b, 30, rfl, G4.1, by decide, by decide, fun r3 H4 r30 r31 g5 => ⟨l3, fun L2 hL2 => ?_⟩⟩
    have G5 := G4.trans g5
    have nL2 := G5.1.ne hL2
    have g6 := Gr.new (o := .lst [.int 1, .int (1 + r3), .int 1000]) G5.1 hL2
    refine ⟨b, 3, rfl, g6.1, by decide, by decide, fun r4 H5 r40 r41 g7 => ?_⟩
    have eL2 := g7.2 _ _ nL2 upd_same
    obtain ⟨wd, hw, ew⟩ := pickI [1, 1 + r3, 1000] r40 r41
    have w1 : 1 ≤ wd ∧ wd ≤ 1000 := by
      simp only [List.mem_cons, List.not_mem_nil, or_false] at hw
      rcases hw with rfl | rfl | rfl <;> omega
    have G7 := (G5.trans g6).trans g7
    refine ⟨_, _, .inl (SqL.of eL2), ew, l2, fun t ht => ?_⟩
    exact q t f _ _ (G7.free hb ht) f1.1 f1.2 (by split <;> omega) (by split <;> omega) (G7.trans (Gr.new G7.1 ht)) upd_same
theorem ok__law_real_reading (T : Txt K mg) : FnOk P w K mg base CX0 2 T.f__law_real_reading T.fd__law_real_reading ["bag", "tables", "stretch", "low", "high"] (spReal K) := by
  refine T.F__law_real_reading.ok sc__law_real_reading (fun vs H Q E h => ?_) (fun cdv A outer s H vs Q E hr h => ?_)
  · obtain ⟨b, tb, st, ys, ts, f, l, lo, hi, rfl, _⟩ := h
    rfl
  · obtain ⟨b, tb, st, ys, ts, f, l, lo, hi, rfl, hb, eT, tabs, lts, flen, lohi, hi1, hst, f0, f1, ll, q⟩ := h
    have l0 : (0 : Nat) ≤ sizeLine := Nat.zero_le _
    have l2 : (2 : Nat) ≤ sizeLine := line_le (by decide)
    refine ⟨_, (pss_cons (ps_asg (pn 2) (tupTK (K := K) (n := 2) rfl (pgs_cons (pg_name (i := 5) sc__law_real_reading.nd rfl (Or.inl rfl)) (pgs_cons (pg_name (i := 6) sc__law_real_reading.nd rfl (Or.inl rfl)) pgs_nil))))
      (pss_cons (ps_set (i := 7) sc__law_real_reading.nd rfl (Or.inl rfl) (pe_lst pa_nil))
      (pss_cons (ps_set (i := 8) sc__law_real_reading.nd rfl (Or.inl rfl) (pe_lst pa_nil))
      (pss_cons (ps_set (i := 9) sc__law_real_reading.nd rfl (Or.inl rfl) (pn 3))
      (pss_cons (ps_for PassesOwn.never rfl (pi_range1 (by rfl) T.z_range (pa_cons (pe_op (addK (K := K)) (pe_callB (lenK (K := K)) (by rfl) T.z_len Tc.boot_len (pa_cons (pn 1) pa_nil)) pe_int) pa_nil)) (pg_name (i := 10) sc__law_real_reading.nd rfl (Or.inl rfl))
      (pss_cons (ps_set (i := 9) sc__law_real_reading.nd rfl (Or.inl rfl) (pe_op (addK (K := K)) (pn 9) (pe_op op_mulG (pe_call (ok__law_take T) hr (by rfl) T.g__law_take T.F__law_take.kp T.b__law_take .nil pass0 (pa_cons (pn 0) (pa_cons (pe_op (addK (K := K)) (pe_op op_subG (pn 4) (pn 9)) pe_int) pa_nil))) (pe_callTy call_intG (by rfl) T.z_int Tc.boot_int (pa_cons (pe_cmpR (eqK (K := K) hr.units) (pe_call (ok__law_take T) hr (by rfl) T.g__law_take T.F__law_take.kp T.b__law_take .nil pass0 (pa_cons (pn 0) (pa_cons pe_int pa_nil))) pe_int (nomark _)) pa_nil)))))
      (pss_cons (ps_expr (pe_bm PySem.F.plainAttrs_list PySem.F.slot_list_append PySem.F.type_list_append mt_append (pn 8) (pa_cons (pn 9) pa_nil)))
      (pss_cons (ps_set (i := 11) sc__law_real_reading.nd rfl (Or.inl rfl) (pe_call (ok__law_find T) hr (by rfl) T.g__law_find T.F__law_find.kp T.b__law_find .nil pass0 (pa_cons (pe_ix (ixK (K := K)) (pn 1) (pn 9) (fun _ _ => rfl)) (pa_cons (pn 5) (pa_cons (pn 6) pa_nil)))))
      (pss_cons (ps_if (pt_cmpG (eqK (K := K) hr.units) (pn 11) (pe_lst pa_nil) (nomark _))
      (pss_one (ps_ret (pe_tup (pa_cons (pe_callTy (tupleK (K := K)) (by rfl) T.z_tuple Tc.boot_tuple (pa_cons (pn 7) pa_nil)) (pa_cons (pe_callTy (tupleK (K := K)) (by rfl) T.z_tuple Tc.boot_tuple (pa_cons (pn 8) pa_nil)) pa_nil)))))
      pss_nil)
      (pss_cons (ps_expr (pe_bm PySem.F.plainAttrs_list PySem.F.slot_list_append PySem.F.type_list_append mt_append (pn 7) (pa_cons (pe_ix (ixK (K := K)) (pn 11) pe_int (fun _ _ => rfl)) pa_nil)))
      (pss_one (ps_set (i := 5) sc__law_real_reading.nd rfl (Or.inl rfl) (pe_op (addK (K := K)) (pe_ix (ixK (K := K)) (pe_ix (ixK (K := K)) (pn 11) pe_int (fun _ _ => rfl)) pe_int (fun _ _ => rfl)) pe_int)))))))))
      (pss_one (ps_ret (pe_tup (pa_cons (pe_tup pa_nil) (pa_cons (pe_tup pa_nil) pa_nil)))))))))), ?_⟩
    refine ⟨st, _, rfl, hst, rfl, _, _, rfl, _, _, rfl, rfl, l0, fun R nR => ⟨l0, fun M nM => ?_⟩⟩
    have nbR := hb.ne nR
    have g1 := Gr.new (o := .lst []) hb nR
    have nbM := g1.1.ne nM
    have g2 := g1.trans (Gr.new (o := .lst []) g1.1 nM)
    have nMH : H M = none := g1.free hb nM
    have nMR : M ≠ R := fun z => by rw [z, upd_same] at nM; cases nM
    have eTb := (off_some eT)
    have eR0 : (upd (upd H R (.lst [])) M (.lst [])) R = some (.lst []) := by rw [upd_ne nMR.symm]; exact upd_same
    have eM0 : (upd (upd H R (.lst [])) M (.lst [])) M = some (.lst []) := upd_same
    generalize upd (upd H R (.lst [])) M (.lst []) = H2 at *
    refine ⟨_, .inl (SqL.of (g2.2 _ _ eTb.1 eTb.2)), _, rfl, by rw [tabs.length]; omega, by rw [tabs.length]; omega, ?_⟩
    have ln : ((ys.length : Int) + 1100).toNat = hi + 1101 := by rw [tabs.length]; omega
    rw [ln]
    refine for_range (lo := 0) (n := hi + 1101) (fun i σ H' => Gr b H H' ∧ ∃ (rs : List Rw) (ms : List Nat) (f' a' : Int) (acc : List V) (x10 x11 : Option V), σ = [some (.ref b), some (.ref tb), some (.ref st), some (.int lo), some (.int hi), some (.int f'), some (.int l), some (.ref R), some (.ref M), some (.int a'), x10, x11] ∧ H' R = some (.lst acc) ∧ DVs K H' acc (rs.map rowD) ∧ H' M = some (.lst (ms.map fun (m : Nat) => V.int m)) ∧ ms.length = i ∧ rs.length = i ∧ (∀ m ∈ ms, lo ≤ m ∧ (m : Int) ≤ a') ∧ ms.Pairwise (· ≤ ·) ∧ (lo : Int) ≤ a' ∧ a' ≤ hi ∧ f + i ≤ f' ∧ f' ≤ 1000 ∧ ∀ tl, readM ts l f (ms ++ tl) = (readM ts l f' tl).map (rs ++ ·))
      ⟨g2, [], [], f, lo, [], _, _, rfl, eR0, .nil, eM0, rfl, rfl, (fun m hm => by cases hm), List.Pairwise.nil, by omega, by omega, by omega, by omega, fun tl => (map_nil _).symm⟩ (fun i σ H' lt pv => ?_) (fun σ H' pv => ?_)
    · obtain ⟨g, rs, ms, f', a', acc, x10, x11, rfl, eR, hd, eM, lms, lrs, hms, hpw, a0, a1, ff, f2, hrd⟩ := pv
      refine ⟨b, _, rfl, g.1, by omega, by omega, fun r H3 r0 r1 g3 => ?_⟩
      refine ⟨b, 3, rfl, g3.1, by decide, by decide, fun z H4 z0 z1 g4 => ?_⟩
      have cm : CMulW r (if (decide (z = 0)) = true then 1 else 0) := wide_mul (a := 40) (b := 40) (by omega) (by split <;> decide) (by decide) (by decide) (by decide)
      refine ⟨cm, ?_⟩
      have am : (a' : Int) ≤ a' + r * (if (decide (z = 0)) = true then 1 else 0) ∧ a' + r * (if (decide (z = 0)) = true then 1 else 0) ≤ hi := by
        split
        · rw [Int.mul_one]; omega
        · rw [Int.mul_zero]; omega
      obtain ⟨m, em⟩ := nat_of (Int.le_trans (by omega : (0 : Int) ≤ a') am.1)
      rw [em] at am
      have G4 := (g.trans g3).trans g4
      have g34 := g3.trans g4
      have eR4 := g34.2 _ _ nbR eR
      have eM4 := g34.2 _ _ nbM eM
      have hd4 := hd.ts (g34.ts g.1) (noLs_map rowD noL_row rs)
      refine ⟨.inl ⟨rfl, _, SqL.of eM4⟩, M, _, _, rfl, rfl, eM4, line_lt (by rw [List.length_map]; omega), ?_⟩
      have G5 : Gr b H (upd H4 M (.lst ((ms.map fun (m : Nat) => V.int m) ++ [.int (a' + r * (if (decide (z = 0)) = true then 1 else 0))]))) := G4.put nbM nMH
      have eM5 : (upd H4 M (.lst ((ms.map fun (m : Nat) => V.int m) ++ [.int (a' + r * (if (decide (z = 0)) = true then 1 else 0))]))) M = some (.lst ((ms ++ [m]).map fun (m : Nat) => V.int m)) := by
        rw [upd_same, List.map_append, em]; rfl
      have eR5 : (upd H4 M (.lst ((ms.map fun (m : Nat) => V.int m) ++ [.int (a' + r * (if (decide (z = 0)) = true then 1 else 0))]))) R = some (.lst acc) := by rw [upd_ne nMR.symm]; exact eR4
      have hd5 := hd4.ts (TSame.lst (o := .lst ((ms.map fun (m : Nat) => V.int m) ++ [.int (a' + r * (if (decide (z = 0)) = true then 1 else 0))])) eM4) (noLs_map rowD noL_row rs)
      generalize upd H4 M (.lst ((ms.map fun (m : Nat) => V.int m) ++ [.int (a' + r * (if (decide (z = 0)) = true then 1 else 0))])) = H5 at *
      have lm : m < ts.length := by omega
      obtain ⟨vt, evt, tab⟩ := tabs_get (tabs.gr hb G5) lm
      have ft : (ts.getD m []).length ≤ 1000 := by
        have e : ts[m]? = some (ts.getD m []) := by rw [List.getD_eq_getElem?_getD, List.getElem?_eq_getElem lm]; rfl
        exact flen _ (List.mem_of_getElem? e)
      refine ⟨ys, vt, .inl (SqL.of (G5.2 _ _ eTb.1 eTb.2)), by rw [em]; exact atI_nat evt, vt, _, f', l, rfl, tab, ft, fun F zs H6 nF s6 eF hz => ⟨l0, fun E0 hE => ?_⟩⟩
      have G6 := G5.trans (Gr.ofs G5.1 s6)
      have G7 := G6.trans (Gr.new (o := .lst []) G6.1 hE)
      have s7 := same_upd (o := .lst []) hE
      have s67 := s6.trans s7
      have eR7 := s67 _ _ eR5
      have eM7 := s67 _ _ eM5
      have eF7 := s7 _ _ eF
      have hd7 := hd5.same s67
      have nRF : R ≠ F := fun z => by rw [z, nF] at eR5; cases eR5
      have hms2 : ∀ x ∈ ms ++ [m], lo ≤ x ∧ (x : Int) ≤ m := fun x hx => by
        rcases List.mem_append.mp hx with y | y
        · have := hms x y
          omega
        · cases List.mem_singleton.mp y
          omega
      have hpw2 : (ms ++ [m]).Pairwise (· ≤ ·) := by
        rw [List.pairwise_append]
        refine ⟨hpw, List.pairwise_singleton _ _, fun x hx y hy => ?_⟩
        cases List.mem_singleton.mp hy
        have := hms x hx
        omega
      have hrd2 := hrd
      cases ef : findM (ts.getD m []) f' l with
      | none =>
        rw [ef] at hz
        have hz : zs = [] := hz
        subst hz
        refine ⟨.list [], .list [], .lst (SqL.of eF7) .nil, .lst (SqL.of upd_same) .nil, .inr (by show 0 + 1 ≤ 60; omega), ?_⟩
        have rd := hrd [m]
        rw [readM_stop ef] at rd
        have rd : readM ts l f (ms ++ [m]) = some (rs ++ []) := rd
        rw [List.append_nil] at rd
        refine Or.inl ⟨acc, SqL.of eR7, fun t1 ht1 => ?_⟩
        have s8 := same_upd (o := .tup acc) ht1
        refine Or.inl ⟨_, SqL.of (s8 _ _ eM7), fun t2 ht2 => ⟨l2, fun t3 ht3 => ?_⟩⟩
        have s9 := same_upd (o := .tup ((ms ++ [m]).map fun (m : Nat) => V.int m)) ht2
        have s10 := same_upd (o := .tup [.ref t1, .ref t2]) ht3
        have G8 := G7.trans (Gr.ofs G7.1 ((s8.trans s9).trans s10))
        refine q t3 (.ref t1) t2 rs (ms ++ [m]) _ ?_ G8 upd_same ?_ (s10 _ _ upd_same) rd (by simp) (fun x hx => by have := hms2 x hx; omega) hpw2 (by rw [List.length_append, lms, List.length_singleton]; omega)
        · exact G7.free hb (s8.free (s9.free ht3))
        · exact .tup (.inl (.inl (s10 _ _ (s9 _ _ upd_same)))) (hd7.same ((s8.trans s9).trans s10))
      | some r2 =>
        rw [ef] at hz
        obtain ⟨p, rfl, hp⟩ := hz
        have hp7 := same_tup s7 hp
        obtain ⟨_, b1, b2⟩ := find_mem ef
        refine ⟨.list [rowD r2], .list [], .lst (SqL.of eF7) (.cons (dv_of_row hp7).dp .nil), .lst (SqL.of upd_same) .nil, .inr (by show 0 + 1 ≤ 60; omega), ?_⟩
        refine ⟨.inl ⟨rfl, _, SqL.of eR7⟩, _, _, .inl (SqL.of eF7), at0, R, acc, _, rfl, rfl, eR7, line_lt (by rw [hd.length, List.length_map]; omega), ?_⟩
        have eF8 : (upd (upd H6 E0 (.lst [])) R (.lst (acc ++ [.ref p]))) F = some (.lst [.ref p]) := by rw [upd_ne nRF.symm]; exact eF7
        have hp8 : SqT K (upd (upd H6 E0 (.lst [])) R (.lst (acc ++ [.ref p]))) p [.int r2.1, .int r2.2] := sqT_ts (TSame.lst eR7) hp7
        refine ⟨_, _, .inl (SqL.of eF8), at0, _, _, .inr hp8, at0, G7.put nbR nR, rs ++ [r2], ms ++ [m], _, _, _, _, _, rfl, upd_same, ?_, by rw [upd_ne nMR]; exact eM7, by rw [List.length_append, lms]; rfl, by rw [List.length_append, lrs]; rfl, (fun x hx => by rw [em]; exact hms2 x hx), hpw2, by rw [em]; omega, by rw [em]; omega, by omega, by omega, fun tl => ?_⟩
        · have hn : DVs K (upd H6 E0 (.lst [])) (acc ++ [.ref p]) ((rs ++ [r2]).map rowD) := by
            rw [List.map_append]
            exact hd7.snoc (dv_of_row hp7)
          exact hn.ts (TSame.lst eR7) (noLs_map rowD noL_row _)
        · rw [List.append_assoc, List.singleton_append, hrd2, readM_some ef, map_app]
    · obtain ⟨g, rs, ms, f', a', acc, x10, x11, rfl, eR, hd, eM, lms, lrs, hms, hpw, a0, a1, ff, f2, hrd⟩ := pv
      omega

end

section
variable {P : Program} {w : World} {K : PySem.W.Frag} {mg : Str → Option Value} {base : Heap}
theorem ok_need_place (T : Txt K mg) : FnOk P w K mg base CX0 1 T.f_need_place T.fd_need_place ["place", "least", "most"] spNeed := by
  refine T.F_need_place.ok sc_need_place (fun vs H Q E h => ?_) (fun cdv A outer s H vs Q E hr h => ?_)
  · obtain ⟨p, l, m, rfl, _⟩ := h
    rfl
  · obtain ⟨p, l, m, rfl, h1, h2, q⟩ := h
    refine ⟨_, (pss_one (ps_if (pt_not (pt_chainG op_leG op_leG (pn 1) (pn 0) (pn 2)))
      (pss_one ps_never)
      pss_nil)), ?_⟩
    refine ite2 (fun e => ite2 (fun e2 => ?_) (fun _ => q)) (fun e => absurd (decide_eq_true h1) e)
    have e2 := not_eq_true e2
    exact absurd h2 (of_decide_eq_false e2)
theorem ok_least_moments (T : Txt K mg) : FnOk P w K mg base CX0 3 T.f_least_moments T.fd_least_moments ["table", "log", "bounds", "stretch", "rows"] (spLeast K) := by
  refine T.F_least_moments.ok sc_least_moments (fun vs H Q E h => ?_) (fun cdv A outer s H vs Q E hr h => ?_)
  · obtain ⟨ks, v, rows, a, xs, es, bo, st, ro, lo, hi, f, l, rv, rs, rfl, _⟩ := h
    rfl
  · obtain ⟨ks, v, rows, a, xs, es, bo, st, ro, lo, hi, f, l, rv, rs, rfl, hL, hbo, lohi, hie, hst, hro, hrv, few, q⟩ := h
    have l0 : (0 : Nat) ≤ sizeLine := Nat.zero_le _
    have l1 : (1 : Nat) ≤ sizeLine := line_le (by decide)
    have ha := hL.2.2.2.1
    have lx : xs.length = es.length := by rw [hL.2.2.2.2.1.length, List.length_map]
    have fewe := hL.2.2.2.2.2.2
    refine ⟨_, (pss_cons (ps_asg (pn 2) (tupTK (K := K) (n := 2) rfl (pgs_cons (pg_name (i := 5) sc_least_moments.nd rfl (Or.inl rfl)) (pgs_cons (pg_name (i := 6) sc_least_moments.nd rfl (Or.inl rfl)) pgs_nil))))
      (pss_cons (ps_expr (pe_call (ok_need_place T) (hr.mono (by decide)) (by rfl) T.g_need_place T.F_need_place.kp T.b_need_place .nil pass0 (pa_cons (pn 5) (pa_cons pe_int (pa_cons (pe_callB (lenK (K := K)) (by rfl) T.z_len Tc.boot_len (pa_cons (pn 1) pa_nil)) pa_nil)))))
      (pss_cons (ps_expr (pe_call (ok_need_place T) (hr.mono (by decide)) (by rfl) T.g_need_place T.F_need_place.kp T.b_need_place .nil pass0 (pa_cons (pn 6) (pa_cons pe_int (pa_cons (pe_callB (lenK (K := K)) (by rfl) T.z_len Tc.boot_len (pa_cons (pn 1) pa_nil)) pa_nil)))))
      (pss_cons (ps_set (i := 7) sc_least_moments.nd rfl (Or.inr rfl) (pe_call (ok_all_tables T) hr (by rfl) T.g_all_tables T.F_all_tables.kp T.b_all_tables .nil pass0 (pa_cons (pn 0) (pa_cons (pn 1) pa_nil))))
      (pss_cons (ps_asg (pn 3) (tupTK (K := K) (n := 2) rfl (pgs_cons (pg_name (i := 8) sc_least_moments.nd rfl (Or.inr rfl)) (pgs_cons (pg_name (i := 9) sc_least_moments.nd rfl (Or.inr rfl)) pgs_nil))))
      (pss_cons (ps_set (i := 10) sc_least_moments.nd rfl (Or.inl rfl) (pe_lst pa_nil))
      (pss_cons (ps_for PassesOwn.never rfl (piK (K := K) (pe_op (addK (K := K)) (pe_callTy (listK (K := K)) (by rfl) T.z_list Tc.boot_list (pa_cons (pn 4) pa_nil)) (pe_lst (pa_cons pe_non pa_nil)))) (pg_name (i := 11) sc_least_moments.nd rfl (Or.inr rfl))
      (pss_cons (ps_setLc (i := 12) (own := [("at", 13)]) rfl sc_least_moments.nd rfl rfl (sw_true rfl rfl rfl (by decide +kernel)) (pi_range2 (by rfl) T.z_range (pa_cons (pn 5) (pa_cons (pe_op (addK (K := K)) (pn 6) pe_int) pa_nil))) (blkOk_by (own := [("at", 13)]) (N := ["table", "log", "bounds", "stretch", "rows", "low", "high", "tables", "first", "last", "moments", "row", "some", "at"]) (sc := defScope s_least_moments) (by decide +kernel)) (fun _ _ _ _ _ => by exact (pg_name (i := 13) sc_least_moments.nd rfl (Or.inl rfl))) (fun _ _ _ _ _ => by exact (pts_one (pt_cmpG (eqK (K := K) hr.units) (pe_call (ok_found_at T) (hr.mono (by decide)) (by rfl) T.g_found_at T.F_found_at.kp T.b_found_at .nil pass0 (pa_cons (pe_ix (ixK (K := K)) (pn 7) (pn 13) (fun _ _ => rfl)) (pa_cons (pn 8) (pa_cons (pn 9) pa_nil)))) (pn 11) (nomark _)))) (fun _ _ _ _ _ => by exact (pn 13)))
      (pss_cons (ps_if (pt_cmpG (eqK (K := K) hr.units) (pn 12) (pe_lst pa_nil) (nomark _))
      (pss_one (ps_ret (pn 10)))
      pss_nil)
      (pss_cons (ps_set (i := 5) sc_least_moments.nd rfl (Or.inl rfl) (pe_ix (ixK (K := K)) (pn 12) pe_int (fun _ _ => rfl)))
      (pss_cons (ps_expr (pe_bm PySem.F.plainAttrs_list PySem.F.slot_list_append PySem.F.type_list_append mt_append (pn 10) (pa_cons (pn 5) pa_nil)))
      (pss_one (ps_if (pt_cmpG op_isnotB (pn 11) pe_non (nomark _))
      (pss_one (ps_set (i := 8) sc_least_moments.nd rfl (Or.inr rfl) (pe_op (addK (K := K)) (pe_ix (ixK (K := K)) (pn 11) pe_int (fun _ _ => rfl)) pe_int)))
      pss_nil)))))))
      (pss_one (ps_ret (pn 10)))))))))), ?_⟩
    refine ⟨bo, _, rfl, hbo, rfl, _, _, rfl, _, _, rfl, rfl, ?_⟩
    refine ⟨xs, .inl (SqL.of ha), lo, 0, xs.length, rfl, by omega, by omega, ?_⟩
    refine ⟨xs, .inl (SqL.of ha), hi, 0, xs.length, rfl, by omega, by omega, ?_⟩
    refine ⟨ks, v, rows, a, xs, es, rfl, hL, fun TB ys H1 nTB s1 eTB tabs => ?_⟩
    have lts := tabsAt_len rows es (es.length + 1)
    generalize tabsAt rows es (es.length + 1) = ts at *
    refine ⟨st, _, rfl, same_tup s1 hst, rfl, _, _, rfl, _, _, rfl, rfl, l0, fun M nM => ?_⟩
    have sM := same_upd (o := .lst []) nM
    refine ⟨rv, .inr (same_tup (s1.trans sM) hro), fun L nL => ⟨l1, fun N nN => ?_⟩⟩
    have sL := same_upd (o := .lst rv) nL
    have sN := same_upd (o := .lst [.non]) nN
    have lr : rv.length = rs.length := by rw [hrv.length, List.length_map]
    refine Or.inl ⟨L, N, rv, [.non], rfl, rfl, sN _ _ upd_same, upd_same, line_le (by show rv.length + 1 ≤ _; omega), fun C nC => ?_⟩
    have sC := same_upd (o := .lst (rv ++ [.non])) nC
    have S2 := ((sM.trans sL).trans sN).trans sC
    have eM2 := sC _ _ (sN _ _ (sL _ _ (upd_same (H := H1) (a := M) (o := .lst []))))
    have eC2 : (upd (upd (upd (upd H1 M (.lst [])) L (.lst rv)) N (.lst [.non])) C (.lst (rv ++ [.non]))) C = some (.lst (rv ++ [.non])) := upd_same
    have nCM : C ≠ M := fun z => by rw [z, sN _ _ (sL _ _ upd_same)] at nC; cases nC
    generalize upd (upd (upd (upd H1 M (.lst [])) L (.lst rv)) N (.lst [.non])) C (.lst (rv ++ [.non])) = H2 at *
    refine for_sq (K := K) (rv ++ [.non]) (.inl (SqL.of eC2)) (fun k σ H' => Same H1 H' ∧ H' C = some (.lst (rv ++ [.non])) ∧ ∃ (acc : List Nat) (lo' : Nat) (f' : Int) (x11 x12 x13 : Option V), σ = [some v, some (.ref a), some (.ref bo), some (.ref st), some (.ref ro), some (.int lo'), some (.int hi), some (.ref TB), some (.int f'), some (.int l), some (.ref M), x11, x12, x13] ∧ H' M = some (.lst (acc.map fun (m : Nat) => V.int m)) ∧ lo' ≤ hi ∧ acc.length = k ∧ leastM ts l hi lo f rs = acc ++ leftM ts l hi lo' f' ((rs.map some ++ [none]).drop k))
      ⟨S2, eC2, [], lo, f, _, _, _, rfl, eM2, lohi, rfl, by rw [List.drop_zero, left_least]; rfl⟩ (fun k σ H' pv o ho => by rw [eC2] at ho; cases ho; exact pv.2.1) (fun k x σ H' lt hx pv => ?_) (fun σ H' pv => ?_)
    · obtain ⟨sm, eC, acc, lo', f', x11, x12, x13, rfl, eM, lo1, lacc, hle⟩ := pv
      obtain ⟨o, eo, hxo⟩ := opt_get ((hrv.same s1).same sm) hx
      rw [opt_drop eo] at hle
      refine ⟨lo', hi + 1, rfl, ⟨by omega, by omega, by omega, by omega⟩, ?_⟩
      have en : (((hi : Int) + 1) - (lo' : Int)).toNat = hi + 1 - lo' := by omega
      rw [en]
      refine lc_rng (lo := lo') (n := hi + 1 - lo') (fun j D H3 => Same H' H3 ∧ H3 D = some (.lst (((List.range' lo' j).filter fun m => decide (findM (ts.getD m []) f' l = o)).map fun (m : Nat) => V.int m))) (fun D nD => ⟨same_upd nD, upd_same⟩) (fun j D H3 ltj nD pv => ?_) (fun D H3 nD pv => ?_)
      · obtain ⟨s3, eD⟩ := pv
        obtain ⟨vt, evt, tab⟩ := tabs_get (m := lo' + j) ((tabs.same sm).same s3) (by omega)
        have er : List.range' lo' (j + 1) = List.range' lo' j ++ [lo' + j] := by rw [List.range'_concat, Nat.one_mul]
        refine ⟨rfl, ys, vt, .inl (SqL.of (s3 _ _ (sm _ _ eTB))), by rw [← Int.natCast_add]; exact atI_nat evt, vt, _, f', l, rfl, tab, fun u hu => ?_⟩
        refine eq_opt hu (OptRow.same s3 hxo) ?_
        refine ite2 (fun c => ?_) (fun c => ?_)
        · refine ⟨_, eD, line_lt ?_, same_put s3 nD, ?_⟩
          · rw [List.length_map]
            have := List.length_filter_le (fun m => decide (findM (ts.getD m []) f' l = o)) (List.range' lo' j)
            rw [List.length_range'] at this
            omega
          · rw [upd_same, er, List.filter_append, List.filter_cons_of_pos (p := fun m => decide (findM (ts.getD m []) f' l = o)) (a := lo' + j) c, List.map_append]
            rfl
        · refine ⟨s3, ?_⟩
          rw [er, List.filter_append, List.filter_cons_of_neg (p := fun m => decide (findM (ts.getD m []) f' l = o)) (a := lo' + j) c, List.filter_nil, List.append_nil]
          exact eD
      · obtain ⟨s3, eD⟩ := pv
        refine ⟨l0, fun E0 nE => ?_⟩
        have s4 := same_upd (o := .lst []) nE
        have S4 := (sm.trans s3).trans s4
        have eD4 := s4 _ _ eD
        have eM4 := s4 _ _ (s3 _ _ eM)
        have eC4 := s4 _ _ (s3 _ _ eC)
        have fh := first_head (ts := ts) (l := l) (f := f') (hi := hi) (lo := lo') (o := o)
        have nDM : D ≠ M := fun z => by rw [z, eM] at nD; cases nD
        generalize ((List.range' lo' (hi + 1 - lo')).filter fun m => decide (findM (ts.getD m []) f' l = o)) = fs at *
        refine ⟨.list (fs.map fun (m : Nat) => PyData.int m), .list [], .lst (SqL.of eD4) (dps_nats fs), .lst (SqL.of upd_same) .nil, .inr (by show 0 + 1 ≤ 60; omega), ?_⟩
        rw [eqv_ints_nil]
        cases fs with
        | nil =>
          have fh : firstM ts l hi lo' f' o = none := fh.symm
          have z : leftM ts l hi lo' f' (o :: (rs.map some ++ [none]).drop (k + 1)) = [] := by
            cases o with
            | none => show (firstM ts l hi lo' f' none).toList = []; rw [fh]; rfl
            | some r => show (match firstM ts l hi lo' f' (some r) with | none => [] | some m => _) = []; rw [fh]
          rw [z, List.append_nil] at hle
          rw [hle] at q
          exact q M _ (s1.free nM) (s1.trans S4) eM4
        | cons m0 fr =>
          have fh : firstM ts l hi lo' f' o = some m0 := fh.symm
          have fin := first_in fh
          refine ⟨_, _, .inl (SqL.of eD4), at0, .inl ⟨rfl, _, SqL.of eM4⟩, M, _, _, rfl, rfl, eM4, line_lt (by rw [List.length_map]; rw [List.length_append, List.length_singleton] at lt; omega), ?_⟩
          have eM5 : ∀ X : Hp, (upd X M (.lst ((acc.map fun (m : Nat) => V.int m) ++ [.int m0]))) M = some (.lst ((acc ++ [m0]).map fun (m : Nat) => V.int m)) := fun X => by rw [upd_same, List.map_append]; rfl
          have S5 := same_put (o := .lst ((acc.map fun (m : Nat) => V.int m) ++ [.int m0])) S4 nM
          cases o with
          | none =>
            have hxo : x = .non := hxo
            subst hxo
            have z : leftM ts l hi lo' f' (none :: (rs.map some ++ [none]).drop (k + 1)) = [m0] := by
              show (firstM ts l hi lo' f' none).toList = [m0]
              rw [fh]; rfl
            refine ⟨S5, by rw [upd_ne nCM]; exact eC4, acc ++ [m0], m0, f', _, _, _, rfl, eM5 _, fin.2, by rw [List.length_append, lacc]; rfl, ?_⟩
            rw [hle, z, none_last eo]
            exact (List.append_nil _).symm
          | some r =>
            obtain ⟨p, rfl, hp⟩ := hxo
            have z : leftM ts l hi lo' f' (some r :: (rs.map some ++ [none]).drop (k + 1)) = m0 :: leftM ts l hi m0 (r.1 + 1) ((rs.map some ++ [none]).drop (k + 1)) := by
              show (match firstM ts l hi lo' f' (some r) with | none => [] | some m => m :: leftM ts l hi m (r.1 + 1) ((rs.map some ++ [none]).drop (k + 1))) = _
              rw [fh]
            have hp5 : SqT K (upd (upd H3 E0 (.lst [])) M (.lst ((acc.map fun (m : Nat) => V.int m) ++ [.int m0]))) p [.int r.1, .int r.2] := sqT_ts (TSame.lst eM4) (same_tup (s3.trans s4) hp)
            refine ⟨_, _, .inr hp5, at0, S5, by rw [upd_ne nCM]; exact eC4, acc ++ [m0], m0, r.1 + 1, _, _, _, rfl, eM5 _, fin.2, by rw [List.length_append, lacc]; rfl, ?_⟩
            rw [hle, z, List.append_assoc]
            rfl
    · obtain ⟨sm, eC, acc, lo', f', x11, x12, x13, rfl, eM, lo1, lacc, hle⟩ := pv
      have z : (rs.map some ++ [(none : Option Rw)]).drop (rv ++ [V.non]).length = [] := List.drop_eq_nil_of_le (by rw [List.length_append, List.length_append, List.length_map, List.length_singleton, List.length_singleton]; omega)
      rw [z] at hle
      have hle : leastM ts l hi lo f rs = acc ++ [] := hle
      rw [List.append_nil] at hle
      rw [hle] at q
      exact q M H' (s1.free nM) (s1.trans sm) eM
theorem ok_moments (T : Txt K mg) : FnOk P w K mg base CX0 4 T.f_moments T.fd_moments ["table", "log", "low", "high", "stretch", "rows"] (spMoments K) := by
  refine T.F_moments.ok sc_moments (fun vs H Q E h => ?_) (fun cdv A outer s H vs Q E hr h => ?_)
  · obtain ⟨ks, v, rows, a, xs, es, st, ro, lo, hi, f, l, rv, rs, rfl, _⟩ := h
    rfl
  · obtain ⟨ks, v, rows, a, xs, es, st, ro, lo, hi, f, l, rv, rs, rfl, hL, lohi, hie, hst, hro, hrv, few, q⟩ := h
    have l2 : (2 : Nat) ≤ sizeLine := line_le (by decide)
    have lr : rv.length = rs.length := by rw [hrv.length, List.length_map]
    refine ⟨_, (pss_cons (ps_set (i := 6) sc_moments.nd rfl (Or.inl rfl) (pe_call (ok_least_moments T) hr (by rfl) T.g_least_moments T.F_least_moments.kp T.b_least_moments .nil pass0 (pa_cons (pn 0) (pa_cons (pn 1) (pa_cons (pe_tup (pa_cons (pn 2) (pa_cons (pn 3) pa_nil))) (pa_cons (pn 4) (pa_cons (pn 5) pa_nil)))))))
      (pss_one (ps_ret (pe_ifExp (pt_cmpG op_gtG (pe_callB (lenK (K := K)) (by rfl) T.z_len Tc.boot_len (pa_cons (pn 6) pa_nil)) (pe_callB (lenK (K := K)) (by rfl) T.z_len Tc.boot_len (pa_cons (pn 5) pa_nil)) (nomark _)) (pe_callTy (tupleK (K := K)) (by rfl) T.z_tuple Tc.boot_tuple (pa_cons (pn 6) pa_nil)) pe_non)))), ?_⟩
    refine ⟨l2, fun bo nbo => ?_⟩
    have s1 := same_upd (o := .tup [.int lo, .int hi]) nbo
    refine ⟨ks, v, rows, a, xs, es, bo, st, ro, lo, hi, f, l, rv, rs, rfl, hL.same s1, .inl (.inl upd_same), lohi, hie, same_tup s1 hst, same_tup s1 hro, hrv.same s1, few, fun D H2 nD s2 eD => ?_⟩
    have S2 := s1.trans s2
    refine ⟨_, .inl (SqL.of eD), rv, .inr (same_tup S2 hro), ite2 (fun c => ?_) (fun c => ?_)⟩
    · have c : ((rv.length : Nat) : Int) < ((List.map (fun (m : Nat) => V.int m) (leastM (tabsAt rows es (es.length + 1)) l hi lo f rs)).length : Nat) := of_decide_eq_true c
      rw [List.length_map] at c
      rw [if_pos (by omega)] at q
      refine Or.inl ⟨_, SqL.of eD, fun t ht => q _ _ (S2.trans (same_upd ht)) ⟨t, rfl, .inl (.inl upd_same)⟩⟩
    · have c : ¬ ((rv.length : Nat) : Int) < ((List.map (fun (m : Nat) => V.int m) (leastM (tabsAt rows es (es.length + 1)) l hi lo f rs)).length : Nat) := fun z => c (decide_eq_true z)
      rw [List.length_map] at c
      rw [if_neg (by omega)] at q
      exact q _ _ S2 rfl

end

section
variable {P : Program} {w : World} {K : PySem.W.Frag} {mg : Str → Option Value} {base : Heap}
theorem ok__law_all_rising (T : Txt K mg) : FnOk P w K mg base CX0 1 T.f__law_all_rising T.fd__law_all_rising ["low", "high", "many"] (spRise K) := by
  refine T.F__law_all_rising.ok sc__law_all_rising (fun vs H Q E h => ?_) (fun cdv A outer s H vs Q E hr h => ?_)
  · obtain ⟨lo, hi, n, rfl, _⟩ := h
    rfl
  · obtain ⟨lo, hi, n, rfl, lohi, hi5, n4, q⟩ := h
    have l0 : (0 : Nat) ≤ sizeLine := Nat.zero_le _
    have l1 : (1 : Nat) ≤ sizeLine := line_le (by decide)
    refine ⟨_, (pss_cons (ps_set (i := 3) sc__law_all_rising.nd rfl (Or.inl rfl) (pe_lst (pa_cons (pe_tup pa_nil) pa_nil)))
      (pss_cons (ps_for PassesOwn.never rfl (pi_range1 (by rfl) T.z_range (pa_cons (pn 2) pa_nil)) (pg_name (i := 4) sc__law_all_rising.nd rfl (Or.inl rfl))
      (pss_cons (ps_set (i := 5) sc__law_all_rising.nd rfl (Or.inl rfl) (pe_lst pa_nil))
      (pss_cons (ps_for PassesOwn.never rfl (piK (K := K) (pn 3)) (pg_name (i := 6) sc__law_all_rising.nd rfl (Or.inr rfl))
      (pss_cons (ps_mid (ps_set (i := 7) sc__law_all_rising.nd rfl (Or.inl rfl) (pe_ifExp (pt_cmpG (neK (K := K) hr.units) (pn 6) (pe_tup pa_nil) (nomark _)) (pe_ix (ixK (K := K)) (pn 6) (pe_un un_negG pe_int) (fun _ _ => rfl)) (pn 0))))
      (pss_one (ps_set (i := 5) sc__law_all_rising.nd rfl (Or.inl rfl) (pe_op (addK (K := K)) (pn 5) (pe_lc (own := [("place", 8)]) rfl sc__law_all_rising.nd (pi_range2 (by rfl) T.z_range (pa_cons (pn 7) (pa_cons (pe_op (addK (K := K)) (pn 1) pe_int) pa_nil))) (blkOk_by (own := [("place", 8)]) (N := ["low", "high", "many", "found", "turn", "new", "row", "least", "place"]) (sc := defScope s__law_all_rising) (by decide +kernel)) (fun _ _ _ _ _ => by exact (pg_name (i := 8) sc__law_all_rising.nd rfl (Or.inl rfl))) (fun _ _ _ _ _ => by exact pts_nil) (fun _ _ _ _ _ => by exact (pe_op (catAK (K := K)) (pn 6) (pe_tup (pa_cons (pn 8) pa_nil))))))))))
      (pss_one (ps_set (i := 3) sc__law_all_rising.nd rfl (Or.inl rfl) (pn 5))))))
      (pss_one (ps_ret (pn 3))))), ?_⟩
    refine ⟨l0, fun e he => ⟨l1, fun F nF => ⟨n, rfl, by omega, by omega, ?_⟩⟩⟩
    have se := same_upd (o := .tup []) he
    have sF := same_upd (o := .lst [.ref e]) nF
    have en : ((n : Int)).toNat = n := by omega
    rw [en]
    have size : ∀ k, k ≤ 4 → (riseC hi k lo).length ≤ 1296 := fun k hk => by
      refine Nat.le_trans (riseC_len hi k lo) ?_
      refine Nat.le_trans (Nat.pow_le_pow_left (show hi + 1 ≤ 6 by omega) k) ?_
      exact Nat.le_trans (Nat.pow_le_pow_right (by decide) hk) (by decide)
    refine for_range (lo := 0) (fun k σ H' => Same H H' ∧ ∃ F ps x4 x5 x6 x7 x8, σ = [some (.int lo), some (.int hi), some (.int n), some (.ref F), x4, x5, x6, x7, x8] ∧ H F = none ∧ H' F = some (.lst (ps.map V.ref)) ∧ PR K H' ps (riseC hi k lo))
      ⟨se.trans sF, F, [e], _, _, _, _, _, rfl, se.free nF, upd_same, .cons (.inl (.inl (sF _ _ upd_same))) .nil⟩ (fun k σ H' lt pv => ?_) (fun σ H' pv => ?_)
    · obtain ⟨sm, F, ps, x4, x5, x6, x7, x8, rfl, nF, eF, hp⟩ := pv
      have lps := hp.length
      have fewk := size k (by omega)
      refine ⟨l0, fun N nN => ?_⟩
      have sN := same_upd (o := .lst []) nN
      refine for_sq (K := K) (ps.map V.ref) (.inl (SqL.of (sN _ _ eF))) (fun j σ H3 => Same H' H3 ∧ ∃ Nw qs x6 x7 x8, σ = [some (.int lo), some (.int hi), some (.int n), some (.ref F), some (.int (0 + k)), some (.ref Nw), x6, x7, x8] ∧ H' Nw = none ∧ H3 Nw = some (.lst (qs.map V.ref)) ∧ PR K H3 qs (((riseC hi k lo).take j).flatMap (growR hi lo)))
        ⟨sN, N, [], _, _, _, rfl, nN, upd_same, .nil⟩ (fun j σ H3 pv o ho => by rw [sN _ _ eF] at ho; cases ho; exact pv.1 _ _ eF) (fun j x σ H3 ltj hx pv => ?_) (fun σ H3 pv => ?_)
      · obtain ⟨s3, Nw, qs, y6, y7, y8, rfl, nNw, eN, hq⟩ := pv
        obtain ⟨p, ms, rfl, ems, hs⟩ := PR.get (hp.same s3) hx
        obtain ⟨inb, lms⟩ := riseC_in (List.mem_of_getElem? ems) lohi
        have lb := last_in inb lohi
        have lqs := hq.length
        have fewq : qs.length ≤ 1296 * 6 := by
          rw [lqs]
          have := flat_len (growR hi lo) 6 ((riseC hi k lo).take j) fun x _ => by unfold growR; rw [List.length_map, List.length_range']; omega
          rw [List.length_take] at this
          omega
        refine ⟨fun σ' H4 => Same H3 H4 ∧ σ' = [some (.int lo), some (.int hi), some (.int n), some (.ref F), some (.int (0 + k)), some (.ref Nw), some (.ref p), some (.int (ms.getLastD lo : Nat)), y8], ?_, fun σ' H4 m => ?_⟩
        · refine ⟨l0, fun E0 hE => ?_⟩
          have sE := same_upd (o := .tup []) hE
          refine ⟨.tuple (ms.map fun (m : Nat) => PyData.int m), .tuple [], .tup (same_tup sE hs) (dps_nats ms), .tup (.inl (.inl upd_same)) .nil, .inr (by show 0 + 1 ≤ 60; omega), ?_⟩
          rw [eqv_unit]
          cases ms with
          | nil => exact ⟨sE, rfl⟩
          | cons m0 mr => exact ⟨_, _, .inr (same_tup sE hs), at_last lo, sE, rfl⟩
        · obtain ⟨s4, rfl⟩ := m
          generalize hL : ms.getLastD lo = L at *
          refine ⟨L, hi + 1, rfl, ⟨by omega, by omega, by omega, by omega⟩, ?_⟩
          have eL : (((hi : Int) + 1) - (L : Int)).toNat = hi + 1 - L := by omega
          rw [eL]
          have hs4 := same_tup s4 hs
          refine lc_rng (lo := L) (n := hi + 1 - L) (fun i D H5 => Same H4 H5 ∧ ∃ rs, H5 D = some (.lst (rs.map V.ref)) ∧ PR K H5 rs ((List.range' L i).map fun p => ms ++ [p])) (fun D nD => ⟨same_upd nD, [], upd_same, .nil⟩) (fun i D H5 lti nD pv => ?_) (fun D H5 nD pv => ?_)
          · obtain ⟨s5, rs, eD, hrs⟩ := pv
            have lrs : rs.length = i := by rw [hrs.length, List.length_map, List.length_range']
            have er : List.range' L (i + 1) = List.range' L i ++ [L + i] := by rw [List.range'_concat, Nat.one_mul]
            have fin : ∀ (r : Addr) (H6 : Hp), Same H5 H6 → SqT K H6 r ((ms ++ [L + i]).map fun (m : Nat) => V.int m) → ∃ acc, H6 D = some (.lst acc) ∧ acc.length < sizeLine ∧ (Same H4 (upd H6 D (.lst (acc ++ [.ref r]))) ∧ ∃ rs, (upd H6 D (.lst (acc ++ [.ref r]))) D = some (.lst (rs.map V.ref)) ∧ PR K (upd H6 D (.lst (acc ++ [.ref r]))) rs ((List.range' L (i + 1)).map fun p => ms ++ [p])) := fun r H6 s6 hr6 => by
              have e6 := s6 _ _ eD
              refine ⟨_, e6, line_lt (by rw [List.length_map]; omega), same_put (s5.trans s6) nD, rs ++ [r], by rw [upd_same, List.map_append]; rfl, ?_⟩
              rw [er, List.map_append]
              exact PR.ts (PR.app (hrs.same s6) (.cons hr6 .nil)) (TSame.lst e6)
            refine ⟨rfl, l1, fun t ht => ?_⟩
            have st := same_upd (o := .tup [.int ((L : Int) + (i : Nat))]) ht
            have ec : V.int ((L : Int) + (i : Nat)) = V.int ((L + i : Nat) : Int) := by rw [Int.natCast_add]
            refine ⟨p, t, _, _, rfl, rfl, same_tup (s5.trans st) hs4, .inl (.inl upd_same), line_le (by rw [List.length_map, lms]; show k + 1 ≤ _; omega), fun e0 => ?_, fun _ z => (by cases z), fun _ _ u hu => ?_⟩
            · have em : ms = [] := List.map_eq_nil_iff.mp e0
              refine fin t _ st ?_
              rw [em]
              show SqT K _ t [V.int ((L + i : Nat) : Int)]
              rw [← ec]
              exact .inl (.inl upd_same)
            · refine fin u _ (st.trans (same_upd hu)) ?_
              rw [List.map_append, ← show [V.int ((L : Int) + (i : Nat))] = [L + i].map (fun (m : Nat) => V.int m) from congrArg (· :: []) ec]
              exact .inl (.inl upd_same)
          · obtain ⟨s5, rs, eD, hrs⟩ := pv
            have eN5 := s5 _ _ (s4 _ _ eN)
            have lrs : rs.length = hi + 1 - L := by rw [hrs.length, List.length_map, List.length_range']
            refine Or.inl ⟨Nw, D, _, _, rfl, rfl, eN5, eD, line_le (by rw [List.length_map, List.length_map]; omega), fun C nC => ?_⟩
            have sC := same_upd (o := .lst (qs.map V.ref ++ rs.map V.ref)) nC
            have S5 := (s3.trans s4).trans s5
            refine ⟨S5.trans sC, C, qs ++ rs, _, _, _, rfl, S5.free nC, by rw [upd_same, List.map_append], ?_⟩
            have z : ((riseC hi k lo).take (j + 1)).flatMap (growR hi lo) = ((riseC hi k lo).take j).flatMap (growR hi lo) ++ (List.range' L (hi + 1 - L)).map fun p => ms ++ [p] := by
              rw [List.take_add_one, ems, Option.toList_some, List.flatMap_append, List.flatMap_cons, List.flatMap_nil, List.append_nil]
              unfold growR
              rw [hL]
            rw [z]
            exact PR.app (hq.same ((s4.trans s5).trans sC)) (hrs.same sC)
      · obtain ⟨s3, Nw, qs, y6, y7, y8, rfl, nNw, eN, hq⟩ := pv
        rw [List.length_map, lps, List.take_length] at hq
        refine ⟨sm.trans s3, Nw, qs, _, _, _, _, _, rfl, sm.free nNw, eN, ?_⟩
        rw [riseC_snoc]
        exact hq
    · obtain ⟨sm, F, ps, x4, x5, x6, x7, x8, rfl, nF, eF, hp⟩ := pv
      exact q F ps H' nF sm eF hp

end

section
variable {P : Program} {w : World} {K : PySem.W.Frag} {mg : Str → Option Value} {base : Heap}
theorem ok__law_other_rows (T : Txt K mg) : FnOk P w K mg base CX0 2 T.f__law_other_rows T.fd__law_other_rows ["bag", "rows"] (spOther K) := by
  refine T.F__law_other_rows.ok sc__law_other_rows (fun vs H Q E h => ?_) (fun cdv A outer s H vs Q E hr h => ?_)
  · obtain ⟨b, ro, rv, rs, rfl, _⟩ := h
    rfl
  · obtain ⟨b, ro, rv, rs, rfl, hb, hro, hrv, few, q⟩ := h
    have l0 : (0 : Nat) ≤ sizeLine := Nat.zero_le _
    have l2 : (2 : Nat) ≤ sizeLine := line_le (by decide)
    have l3 : (3 : Nat) ≤ sizeLine := line_le (by decide)
    have lr : rv.length = rs.length := by rw [hrv.length, List.length_map]
    refine ⟨_, (pss_cons (ps_set (i := 2) sc__law_other_rows.nd rfl (Or.inl rfl) (pe_callTy (listK (K := K)) (by rfl) T.z_list Tc.boot_list (pa_cons (pn 1) pa_nil)))
      (pss_cons (ps_set (i := 3) sc__law_other_rows.nd rfl (Or.inl rfl) (pe_call (ok__law_take T) hr (by rfl) T.g__law_take T.F__law_take.kp T.b__law_take .nil pass0 (pa_cons (pn 0) (pa_cons (pe_op (addK (K := K)) (pe_callB (lenK (K := K)) (by rfl) T.z_len Tc.boot_len (pa_cons (pn 2) pa_nil)) pe_int) pa_nil))))
      (pss_cons (ps_set (i := 4) sc__law_other_rows.nd rfl (Or.inl rfl) (pe_call (ok__law_take T) hr (by rfl) T.g__law_take T.F__law_take.kp T.b__law_take .nil pass0 (pa_cons (pn 0) (pa_cons pe_int pa_nil))))
      (pss_cons (ps_if (PW.pt (pw_or (pt_cmpG (eqK (K := K) hr.units) (pn 4) pe_int (nomark _)) (pw_or1 (pt_cmpG (eqK (K := K) hr.units) (pn 2) (pe_lst pa_nil) (nomark _)))))
      (pss_one (ps_expr (pe_bm PySem.F.plainAttrs_list PySem.F.slot_list_insert PySem.F.type_list_insert mt_insert (pn 2) (pa_cons (pn 3) (pa_cons (pe_tup (pa_cons (pe_call (ok__law_take T) hr (by rfl) T.g__law_take T.F__law_take.kp T.b__law_take .nil pass0 (pa_cons (pn 0) (pa_cons pe_int pa_nil))) (pa_cons (pe_call (ok__law_take T) hr (by rfl) T.g__law_take T.F__law_take.kp T.b__law_take .nil pass0 (pa_cons (pn 0) (pa_cons pe_int pa_nil))) pa_nil))) pa_nil)))))
      (pss_one (ps_if (pt_cmpG (eqK (K := K) hr.units) (pn 4) pe_int (nomark _))
      (pss_one (ps_expr (pe_bm PySem.F.plainAttrs_list PySem.F.slot_list_pop PySem.F.type_list_pop mt_popAt (pn 2) (pa_cons (pe_op op_modG (pn 3) (pe_callB (lenK (K := K)) (by rfl) T.z_len Tc.boot_len (pa_cons (pn 2) pa_nil))) pa_nil))))
      (pss_one (ps_if (pt_cmpG (eqK (K := K) hr.units) (pn 4) pe_int (nomark _))
      (pss_cons (ps_asg (pe_ix (ixK (K := K)) (pn 2) (pe_op op_modG (pn 3) (pe_callB (lenK (K := K)) (by rfl) T.z_len Tc.boot_len (pa_cons (pn 2) pa_nil))) (fun _ _ => rfl)) (tupTK (K := K) (n := 2) rfl (pgs_cons (pg_name (i := 5) sc__law_other_rows.nd rfl (Or.inl rfl)) (pgs_cons (pg_name (i := 6) sc__law_other_rows.nd rfl (Or.inl rfl)) pgs_nil))))
      (pss_one (ps_asg (pe_tup (pa_cons (pn 5) (pa_cons (pe_ix (ixK (K := K)) (pe_lst (pa_cons (pe_op (addK (K := K)) (pn 6) pe_int) (pa_cons pe_int (pa_cons pe_int pa_nil)))) (pe_call (ok__law_take T) hr (by rfl) T.g__law_take T.F__law_take.kp T.b__law_take .nil pass0 (pa_cons (pn 0) (pa_cons pe_int pa_nil))) (fun _ _ => rfl)) pa_nil))) (pg_sub (pn 2) (pe_op op_modG (pn 3) (pe_callB (lenK (K := K)) (by rfl) T.z_len Tc.boot_len (pa_cons (pn 2) pa_nil))) set_list))))
      (pss_one (ps_if (pt_cmpG (eqK (K := K) hr.units) (pn 4) pe_int (nomark _))
      (pss_cons (ps_asg (pe_ix (ixK (K := K)) (pn 2) (pe_op op_modG (pn 3) (pe_callB (lenK (K := K)) (by rfl) T.z_len Tc.boot_len (pa_cons (pn 2) pa_nil))) (fun _ _ => rfl)) (tupTK (K := K) (n := 2) rfl (pgs_cons (pg_name (i := 5) sc__law_other_rows.nd rfl (Or.inl rfl)) (pgs_cons (pg_name (i := 6) sc__law_other_rows.nd rfl (Or.inl rfl)) pgs_nil))))
      (pss_one (ps_asg (pe_tup (pa_cons (pe_op (addK (K := K)) (pn 5) pe_int) (pa_cons (pn 6) pa_nil))) (pg_sub (pn 2) (pe_op op_modG (pn 3) (pe_callB (lenK (K := K)) (by rfl) T.z_len Tc.boot_len (pa_cons (pn 2) pa_nil))) set_list))))
      (pss_one (ps_set (i := 2) sc__law_other_rows.nd rfl (Or.inl rfl) (pe_slice (slK (K := K)) (pn 2) po_none (po_G (pn 3))))))))))))
      (pss_one (ps_ret (pe_callTy (tupleK (K := K)) (by rfl) T.z_tuple Tc.boot_tuple (pa_cons (pn 2) pa_nil)))))))), ?_⟩
    refine ⟨rv, .inr hro, fun F nF => ?_⟩
    have g1 := Gr.new (o := .lst rv) hb nF
    have nFb := hb.ne nF
    have hrv1 := hrv.same (same_upd (o := .lst rv) nF)
    refine ⟨_, .inl (SqL.of upd_same), b, _, rfl, g1.1, by omega, by omega, fun at' H2 r0 r1 g2 => ?_⟩
    refine ⟨b, 5, rfl, g2.1, by decide, by decide, fun way H3 w0 w1 g3 => ?_⟩
    have G3 := (g1.trans g2).trans g3
    have eF := (g2.trans g3).2 _ _ nFb upd_same
    have hrv3 := hrv1.ts ((g2.trans g3).ts g1.1) (noLs_map rowD noL_row rs)
    have fin : ∀ (H' : Hp) (F' : Addr) (xs : List V) (rs' : List Rw), Gr b H H' → H' F' = some (.lst xs) → DVs K H' xs (rs'.map rowD) → rs'.length ≤ rs.length + 1 → (∃ ys, SqL K H' F' ys ∧ ∀ l, H' l = none → Q (.ref l) (upd H' l (.tup ys))) ∨ ∃ ys, SqT K H' F' ys ∧ Q (.ref F') H' := fun H' F' xs rs' g e hd hl =>
      Or.inl ⟨xs, SqL.of e, fun l nl => q l xs rs' _ (g.free hb nl) (g.trans (Gr.new g.1 nl)) upd_same (hd.same (same_upd nl)) hl⟩
    -- one put in
    have ins : ∀ H4, Gr b H3 H4 → ∀ (k wo : Int) H5, Gr b H4 H5 → ∀ t, H5 t = none → Gr b H (upd (upd H5 t (.tup [.int k, .int wo])) F (.lst (rv.take at'.toNat ++ [.ref t] ++ rv.drop at'.toNat))) ∧
        (upd H5 t (.tup [.int k, .int wo])) F = some (.lst rv) ∧ DVs K (upd (upd H5 t (.tup [.int k, .int wo])) F (.lst (rv.take at'.toNat ++ [.ref t] ++ rv.drop at'.toNat))) (rv.take at'.toNat ++ [.ref t] ++ rv.drop at'.toNat) ((rs.take at'.toNat ++ [(k, wo)] ++ rs.drop at'.toNat).map rowD) := fun H4 g4 k wo H5 g5 t ht => by
      have g6 := (g4.trans g5).trans (Gr.new (o := .tup [.int k, .int wo]) g5.1 ht)
      have e6 := g6.2 _ _ nFb eF
      have h6 := hrv3.ts (g6.ts g3.1) (noLs_map rowD noL_row rs)
      refine ⟨(G3.trans g6).put nFb nF, e6, ?_⟩
      have hn : DVs K (upd H5 t (.tup [.int k, .int wo])) (rv.take at'.toNat ++ [.ref t] ++ rv.drop at'.toNat) ((rs.take at'.toNat ++ [(k, wo)] ++ rs.drop at'.toNat).map rowD) := by
        rw [List.map_append, List.map_append]
        exact ((h6.rows_take _).append (.cons (dv_row upd_same) .nil)).append (h6.rows_drop _)
      exact hn.ts (TSame.lst e6) (noLs_map rowD noL_row _)
    have lins : ∀ (k wo : Int), (rs.take at'.toNat ++ [(k, wo)] ++ rs.drop at'.toNat).length ≤ rs.length + 1 := fun k wo => by
      rw [List.length_append, List.length_append, List.length_take, List.length_drop, List.length_singleton]
      omega
    refine ite2 (fun c => ?_) (fun c => ?_)
    · refine ⟨.inl ⟨rfl, _, SqL.of eF⟩, b, 1000, rfl, g3.1, by decide, by decide, fun k H4 k0 k1 g4 => ⟨b, 5, rfl, g4.1, by decide, by decide, fun wo H5 wo0 wo1 g5 => ⟨l2, fun t ht => ?_⟩⟩⟩
      obtain ⟨z1, z2, z3⟩ := ins H4 g4 k wo H5 g5 t ht
      exact ⟨F, rv, at', _, rfl, rfl, z2, line_lt (by omega), r0, by omega, fin _ F _ _ z1 upd_same z3 (lins k wo)⟩
    · refine ⟨l0, fun E0 hE => ?_⟩
      have sE := same_upd (o := .lst []) hE
      have gE := Gr.new (o := .lst []) g3.1 hE
      have G4 := G3.trans gE
      have eF4 := sE _ _ eF
      have hrv4 := hrv3.same sE
      refine ⟨.list (rs.map rowD), .list [], .lst (SqL.of eF4) hrv4.dp, .lst (SqL.of upd_same) .nil, .inr (by show 0 + 1 ≤ 60; omega), ?_⟩
      rw [eqv_none]
      generalize upd H3 E0 (.lst []) = H4 at *
      have emp : ∀ b' : Bool, (rs.map rowD).isEmpty = b' → rs = [] ∨ (b' = false ∧ 0 < rs.length) := fun b' h => by
        cases rs with
        | nil => exact .inl rfl
        | cons => exact .inr ⟨h.symm, by rw [List.length_cons]; omega⟩
      rcases emp _ rfl with e0 | ⟨e0, pos⟩
      · subst e0
        refine ⟨.inl ⟨rfl, _, SqL.of eF4⟩, b, 1000, rfl, gE.1, by decide, by decide, fun k H5 k0 k1 g5 => ⟨b, 5, rfl, g5.1, by decide, by decide, fun wo H6 wo0 wo1 g6 => ⟨l2, fun t ht => ?_⟩⟩⟩
        obtain ⟨z1, z2, z3⟩ := ins H5 (gE.trans g5) k wo H6 g6 t ht
        exact ⟨F, rv, at', _, rfl, rfl, z2, line_lt (by omega), r0, by omega, fin _ F _ _ z1 upd_same z3 (lins k wo)⟩
      · rw [e0]
        have m0 := Int.emod_nonneg at' (show (rv.length : Int) ≠ 0 by omega)
        have m1 := Int.emod_lt_of_pos at' (show (0 : Int) < rv.length by omega)
        obtain ⟨j, ej⟩ := nat_of m0
        have lj : j < rs.length := by omega
        obtain ⟨p, r, e1, e2, hp⟩ := hrv4.rows_get lj
        have eat : atI rv (at' % (rv.length : Int)) = some (.ref p) := by rw [ej]; exact atI_nat e1
        refine ite2 (fun c1 => ?_) (fun c1 => ?_)
        · refine ⟨.inl ⟨rfl, _, SqL.of eF4⟩, _, .inl (SqL.of eF4), by omega, F, rv, _, j, .ref p, rfl, rfl, eF4, by omega, by omega, ?_, e1, ?_⟩
          · rw [ej]
            have z := seqIndex_of (k := (j : Int)) (n := rv.length) (by omega) (by omega)
            rw [Int.toNat_natCast] at z
            exact z
          · refine fin _ F _ (rs.eraseIdx j) (G4.put nFb nF) upd_same ((hrv4.rows_erase j).ts (TSame.lst eF4) (noLs_map rowD noL_row _)) ?_
            rw [List.length_eraseIdx]
            split <;> omega
        · refine ite2 (fun c2 => ?_) (fun c2 => ?_)
          · refine ⟨_, .inl (SqL.of eF4), by omega, rv, .ref p, .inl (SqL.of eF4), eat, p, _, rfl, hp, rfl, _, _, rfl, _, _, rfl, rfl, ?_⟩
            refine ⟨l3, fun L nL => ?_⟩
            have gL := Gr.new (o := .lst [.int (r.2 + 1), .int 0, .int 1]) G4.1 nL
            have nLb := G4.1.ne nL
            refine ⟨b, 3, rfl, gL.1, by decide, by decide, fun z H5 z0 z1 g5 => ?_⟩
            have eL := g5.2 _ _ nLb upd_same
            obtain ⟨wo, hwo, ewo⟩ := pickI [r.2 + 1, 0, 1] z0 z1
            refine ⟨_, _, .inl (SqL.of eL), ewo, l2, fun t ht => ?_⟩
            have g6 := (gL.trans g5).trans (Gr.new (o := .tup [.int r.1, .int wo]) g5.1 ht)
            have e6 := g6.2 _ _ nFb eF4
            have h6 := hrv4.ts (g6.ts G4.1) (noLs_map rowD noL_row rs)
            refine ⟨_, .inl (SqL.of e6), by omega, F, rv, _, j, rfl, rfl, e6, by rw [ej]; exact ix_nat (by omega) (by omega), ?_⟩
            refine fin _ F _ (rs.set j (r.1, wo)) ((G4.trans g6).put nFb nF) upd_same ((h6.rows_set (r := (r.1, wo)) j (.inl (.inl upd_same))).ts (TSame.lst e6) (noLs_map rowD noL_row _)) ?_
            rw [List.length_set]; omega
          · refine ite2 (fun c3 => ?_) (fun c3 => ?_)
            · refine ⟨_, .inl (SqL.of eF4), by omega, rv, .ref p, .inl (SqL.of eF4), eat, p, _, rfl, hp, rfl, _, _, rfl, _, _, rfl, rfl, ?_⟩
              refine ⟨l2, fun t ht => ?_⟩
              have g6 := Gr.new (o := .tup [.int (r.1 + 1), .int r.2]) G4.1 ht
              have e6 := g6.2 _ _ nFb eF4
              have h6 := hrv4.ts (g6.ts G4.1) (noLs_map rowD noL_row rs)
              refine ⟨_, .inl (SqL.of e6), by omega, F, rv, _, j, rfl, rfl, e6, by rw [ej]; exact ix_nat (by omega) (by omega), ?_⟩
              refine fin _ F _ (rs.set j (r.1 + 1, r.2)) ((G4.trans g6).put nFb nF) upd_same ((h6.rows_set (r := (r.1 + 1, r.2)) j (.inl (.inl upd_same))).ts (TSame.lst e6) (noLs_map rowD noL_row _)) ?_
              rw [List.length_set]; omega
            · refine Or.inl ⟨rv, SqL.of eF4, fun L nL => ?_⟩
              rw [cut_lo rv at' r0 (by omega)]
              have gL := Gr.new (o := .lst (rv.take at'.toNat)) G4.1 nL
              refine fin _ L _ (rs.take at'.toNat) (G4.trans gL) upd_same ((hrv4.rows_take _).same (same_upd nL)) ?_
              rw [List.length_take]; omega

end

section
variable {P : Program} {w : World} {K : PySem.W.Frag} {mg : Str → Option Value} {base : Heap}
set_option maxHeartbeats 1000000 in
theorem ok_law (T : Txt K mg) : FnOk P w K mg base CX0 6 T.f_law T.fd_law ["script"] (Tc.spLaw K) := by
  refine T.F_law.ok sc_law (fun vs H Q E h => ?_) (fun cdv A outer s H vs Q E hr h => ?_)
  · obtain ⟨a, ns, rfl, _⟩ := h
    rfl
  · obtain ⟨a, ns, rfl, hs, hl, q⟩ := h
    have l0 : (0 : Nat) ≤ sizeLine := line_le (by decide)
    have l2 : (2 : Nat) ≤ sizeLine := line_le (by decide)
    have l4 : (4 : Nat) ≤ sizeLine := line_le (by decide)
    have ll : (ns.map V.int).length = ns.length := List.length_map _
    refine ⟨_, (pss_cons (ps_for PassesOwn.never rfl (pi_range1 (by rfl) T.z_range (pa_cons (pe_op (addK (K := K)) pe_int (pe_callB (call_min2G rfl) (by rfl) T.z_min Tc.boot_min (pa_cons (pe_callB (lenK (K := K)) (by rfl) T.z_len Tc.boot_len (pa_cons (pn 0) pa_nil)) (pa_cons pe_int pa_nil)))) pa_nil)) (pg_name (i := 1) sc_law.nd rfl (Or.inl rfl))
      (pss_cons (ps_set (i := 2) sc_law.nd rfl (Or.inl rfl) (pe_call (ok__law_bag T) (hr.mono (by decide)) (by rfl) T.g__law_bag T.F__law_bag.kp T.b__law_bag .nil pass0 (pa_cons (pn 0) (pa_cons (pn 1) pa_nil))))
      (pss_cons (ps_set (i := 3) sc_law.nd rfl (Or.inl rfl) (pe_slice (slK (K := K)) (pe_call (ok__law_keys T) (hr.mono (by decide)) (by rfl) T.g__law_keys T.F__law_keys.kp T.b__law_keys .nil pass0 (pa_cons (pn 2) pa_nil)) po_none (po_G pe_int)))
      (pss_cons (ps_set (i := 4) sc_law.nd rfl (Or.inl rfl) (pe_call (ok__law_table T) (hr.mono (by decide)) (by rfl) T.g__law_table T.F__law_table.kp T.b__law_table .nil pass0 (pa_cons (pn 2) (pa_cons (pn 3) pa_nil))))
      (pss_cons (ps_set (i := 5) sc_law.nd rfl (Or.inl rfl) (pe_call (ok__law_log T) hr (by rfl) T.g__law_log T.F__law_log.kp T.b__law_log .nil pass0 (pa_cons (pn 2) (pa_cons (pn 3) (pa_cons pe_int pa_nil)))))
      (pss_cons (ps_set (i := 6) sc_law.nd rfl (Or.inr rfl) (pe_call (ok__law_tables T) (hr.mono (by decide)) (by rfl) T.g__law_tables T.F__law_tables.kp T.b__law_tables .nil pass0 (pa_cons (pn 4) (pa_cons (pn 5) pa_nil))))
      (pss_cons (ps_set (i := 7) sc_law.nd rfl (Or.inr rfl) (pe_call (ok__law_stretch T) (hr.mono (by decide)) (by rfl) T.g__law_stretch T.F__law_stretch.kp T.b__law_stretch .nil pass0 (pa_cons (pn 2) (pa_cons (pn 3) pa_nil))))
      (pss_cons (ps_set (i := 8) sc_law.nd rfl (Or.inl rfl) (pe_call (ok__law_take T) (hr.mono (by decide)) (by rfl) T.g__law_take T.F__law_take.kp T.b__law_take .nil pass0 (pa_cons (pn 2) (pa_cons (pe_op (addK (K := K)) (pe_callB (lenK (K := K)) (by rfl) T.z_len Tc.boot_len (pa_cons (pn 5) pa_nil)) pe_int) pa_nil))))
      (pss_cons (ps_asg (pe_call (ok__law_real_reading T) (hr.mono (by decide)) (by rfl) T.g__law_real_reading T.F__law_real_reading.kp T.b__law_real_reading .nil pass0 (pa_cons (pn 2) (pa_cons (pn 6) (pa_cons (pn 7) (pa_cons (pn 8) (pa_cons (pe_callB (lenK (K := K)) (by rfl) T.z_len Tc.boot_len (pa_cons (pn 5) pa_nil)) pa_nil)))))) (tupTK (K := K) (n := 2) rfl (pgs_cons (pg_name (i := 9) sc_law.nd rfl (Or.inl rfl)) (pgs_cons (pg_name (i := 10) sc_law.nd rfl (Or.inl rfl)) pgs_nil))))
      (pss_cons (ps_mid (ps_set (i := 11) sc_law.nd rfl (Or.inl rfl) (pe_lst (pa_cons (pn 9) (pa_cons (pe_call (ok__law_other_rows T) (hr.mono (by decide)) (by rfl) T.g__law_other_rows T.F__law_other_rows.kp T.b__law_other_rows .nil pass0 (pa_cons (pn 2) (pa_cons (pn 9) pa_nil))) (pa_cons (pe_call (ok__law_other_rows T) (hr.mono (by decide)) (by rfl) T.g__law_other_rows T.F__law_other_rows.kp T.b__law_other_rows .nil pass0 (pa_cons (pn 2) (pa_cons (pn 9) pa_nil))) (pa_cons (pe_tup pa_nil) pa_nil)))))))
      (pss_one (ps_for PassesOwn.never rfl (piK (K := K) (pe_lc (own := [("rows", 9)]) rfl sc_law.nd (piK (K := K) (pn 11)) (blkOk_by (own := [("rows", 9)]) (N := ["script", "k", "bag", "keys", "table", "log", "tables", "stretch", "low", "rows", "times", "some", "one", "least", "most", "all_ones", "due", "found", "row"]) (sc := defScope s_law) (by decide +kernel)) (fun _ _ _ _ _ => by exact (pg_name (i := 9) sc_law.nd rfl (Or.inl rfl))) (fun _ _ _ _ _ => by exact (pts_one (pt_cmpG op_ltG (pe_callB (lenK (K := K)) (by rfl) T.z_len Tc.boot_len (pa_cons (pn 9) pa_nil)) pe_int (nomark _)))) (fun _ _ _ _ _ => by exact (pn 9)))) (pg_name (i := 12) sc_law.nd rfl (Or.inr rfl))
      (pss_one (ps_for PassesOwn.never rfl (piK (K := K) (pe_lst (pa_cons (pe_tup (pa_cons (pn 8) (pa_cons (pe_callB (lenK (K := K)) (by rfl) T.z_len Tc.boot_len (pa_cons (pn 5) pa_nil)) pa_nil))) (pa_cons (pe_tup (pa_cons pe_int (pa_cons (pe_callB (lenK (K := K)) (by rfl) T.z_len Tc.boot_len (pa_cons (pn 5) pa_nil)) pa_nil))) (pa_cons (pe_tup (pa_cons (pn 8) (pa_cons (pn 8) pa_nil))) (pa_cons (pe_tup (pa_cons (pn 8) (pa_cons (pe_op op_fdivG (pe_op (addK (K := K)) (pn 8) (pe_callB (lenK (K := K)) (by rfl) T.z_len Tc.boot_len (pa_cons (pn 5) pa_nil))) pe_int) pa_nil))) pa_nil)))))) (tupTK (K := K) (n := 2) rfl (pgs_cons (pg_name (i := 13) sc_law.nd rfl (Or.inl rfl)) (pgs_cons (pg_name (i := 14) sc_law.nd rfl (Or.inl rfl)) pgs_nil)))
      (pss_cons (ps_set (i := 15) sc_law.nd rfl (Or.inl rfl) (pe_call (ok__law_all_rising T) (hr.mono (by decide)) (by rfl) T.g__law_all_rising T.F__law_all_rising.kp T.b__law_all_rising .nil pass0 (pa_cons (pn 13) (pa_cons (pn 14) (pa_cons (pe_op (addK (K := K)) (pe_callB (lenK (K := K)) (by rfl) T.z_len Tc.boot_len (pa_cons (pn 12) pa_nil)) pe_int) pa_nil)))))
      (pss_cons (ps_mid (ps_set (i := 16) sc_law.nd rfl (Or.inl rfl) (pe_slice (slK (K := K)) (pe_lc (own := [("row", 18)]) rfl sc_law.nd (piK (K := K) (pn 15)) (blkOk_by (own := [("row", 18)]) (N := ["script", "k", "bag", "keys", "table", "log", "tables", "stretch", "low", "rows", "times", "some", "one", "least", "most", "all_ones", "due", "found", "row"]) (sc := defScope s_law) (by decide +kernel)) (fun _ _ _ _ _ => by exact (pg_name (i := 18) sc_law.nd rfl (Or.inl rfl))) (fun _ _ _ _ _ => by exact (pts_one (pt_cmpG (eqK (K := K) hr.units) (pe_call (ok__law_read T) (hr.mono (by decide)) (by rfl) T.g__law_read T.F__law_read.kp T.b__law_read .nil pass0 (pa_cons (pn 6) (pa_cons (pn 7) (pa_cons (pn 18) pa_nil)))) (pn 12) (nomark _)))) (fun _ _ _ _ _ => by exact (pn 18))) po_none (po_G pe_int))))
      (pss_cons (ps_set (i := 17) sc_law.nd rfl (Or.inl rfl) (pe_call (ok_moments T) (hr.mono (by decide)) (by rfl) T.g_moments T.F_moments.kp T.b_moments .nil pass0 (pa_cons (pn 4) (pa_cons (pn 5) (pa_cons (pn 13) (pa_cons (pn 14) (pa_cons (pn 7) (pa_cons (pn 12) pa_nil))))))))
      (pss_one (ps_if (pt_cmpG (neK (K := K) hr.units) (pn 17) (pe_ifExp (pt_cmpG (neK (K := K) hr.units) (pn 16) (pe_lst pa_nil) (nomark _)) (pe_ix (ixK (K := K)) (pn 16) pe_int (fun _ _ => rfl)) pe_non) (nomark _))
      (pss_one (ps_ret pe_bl))
      pss_nil)))))))))))))))))))
      (pss_one (ps_ret pe_bl))), ?_⟩
    refine ⟨_, .inl hs, _, rfl, by split <;> omega, by split <;> omega, ?_⟩
    refine for_range (lo := 0) (fun i σ H' => Same H H' ∧ ∃ x1 x2 x3 x4 x5 x6 x7 x8 x9 x10 x11 x12 x13 x14 x15 x16 x17 x18, σ = [some (.ref a), x1, x2, x3, x4, x5, x6, x7, x8, x9, x10, x11, x12, x13, x14, x15, x16, x17, x18]) ⟨Same.refl H, _, _, _, _, _, _, _, _, _, _, _, _, _, _, _, _, _, _, rfl⟩ (fun i σ H1 lt pv => ?_) (fun σ H1 pv => q _)
    obtain ⟨s1, x1, x2, x3, x4, x5, x6, x7, x8, x9, x10, x11, x12, x13, x14, x15, x16, x17, x18, rfl⟩ := pv
    -- bag
    have lt64 : i < 100 := by split at lt <;> omega
    refine ⟨a, ns, 0 + i, rfl, s1.seq hs, by omega, by omega, fun b x y nb y0 y1 => ?_⟩
    have hb : Bag (upd H1 b (.lst [.int x, .int y])) b := ⟨x, y, upd_same, y0, y1⟩
    have s2 : Same H (upd H1 b (.lst [.int x, .int y])) := s1.trans (same_upd nb)
    have nbH := s1.free nb
    generalize upd H1 b (.lst [.int x, .int y]) = H2 at hb s2
    -- keys, table, log
    refine ⟨b, rfl, hb, fun p0 ks0 H3 hk g3 hp0 ip0 => ?_⟩
    refine Or.inl ⟨_, SqL.of ip0.at, fun p np => ?_⟩
    rw [cut_three, ← List.map_take]
    have gp := Gr.new (o := .lst ((ks0.take 3).map V.int)) g3.1 np
    have ip : IntsAt b (upd H3 p (.lst ((ks0.take 3).map V.int))) p (ks0.take 3) := off_mk (g3.1.ne np) upd_same
    have kin : ∀ k ∈ ks0.take 3, 0 ≤ k ∧ k ≤ 999 := fun k hk2 => hk.2.1 k (List.mem_of_mem_take hk2)
    have k0 : 0 < (ks0.take 3).length := by rw [List.length_take]; have := hk.2.2.2; omega
    have k1 : (ks0.take 3).length ≤ 3 := by rw [List.length_take]; omega
    generalize ks0.take 3 = ks at *
    generalize upd H3 p (.lst (ks.map V.int)) = H3' at *
    refine ⟨b, p, ks, rfl, gp.1, ip, by omega, fun v rows H4 hrow g4 tab => ?_⟩
    refine ⟨b, p, ks, 5, rfl, g4.1, ip.gr g4, k0, by omega, by decide, fun D vs es H5 nD el ein g5 eD hd => ?_⟩
    have hrows := rows_in hrow
    have hein : ∀ e ∈ es, Ent.In ks 100 e := fun e he => (ein e he).mono (by decide)
    have hL : LogIn K H5 ks v rows D vs es := ⟨tab.gr g4.1 g5, hrows, by omega, eD, hd, hein, by omega⟩
    have nDb := g4.1.ne nD
    have lvs : vs.length = es.length := by rw [hd.length, List.length_map]
    refine ⟨ks, v, rows, D, vs, es, rfl, hL, fun TB ys H6 nTB s6 eTB tabs => ?_⟩
    have g6 := Gr.ofs g5.1 s6
    have nTBb := g5.1.ne nTB
    have flen := tabsAt_flen (n := es.length + 1) hrows hein (by omega)
    have lts := tabsAt_len rows es (es.length + 1)
    have hL6 := hL.gr g5.1 nDb g6
    -- stretch, low
    refine ⟨b, p, ks, rfl, g6.1, ((ip.gr g4).gr g5).gr g6, kin, k0, by omega, fun st f l H7 nst f0 f1 fl ll2 g7 est => ?_⟩
    have hL7 := hL6.gr g6.1 nDb g7
    have tabs7 := tabs.gr g6.1 g7
    have eTB7 := g7.2 _ _ nTBb eTB
    refine ⟨vs, .inl (SqL.of hL7.2.2.2.1), b, _, rfl, g7.1, by omega, by omega, fun low H7' r0 r1 g7' => ?_⟩
    obtain ⟨lo, rfl⟩ := nat_of r0
    have hL7' := hL7.gr g7.1 nDb g7'
    have tabs7' := tabs7.gr g7.1 g7'
    have eTB7' := g7'.2 _ _ nTBb eTB7
    have hst7 : SqT K H7' st [.int f, .int l] := sqT_ts (g7'.ts g7.1) (.inl (.inl est))
    -- rows, times
    refine ⟨vs, .inl (SqL.of hL7'.2.2.2.1), b, TB, st, ys, tabsAt rows es (es.length + 1), f, l, lo, vs.length, rfl, g7'.1, off_mk nTBb eTB7', tabs7', by rw [lts, lvs], flen, by omega, by omega, hst7, f0, f1, ll2, fun t u mo rs ms H8 nt g8 et hu emo hrd ne hms hpw few => ?_⟩
    have hL8 := hL7'.gr g7'.1 nDb g8
    have tabs8 := tabs7'.gr g7'.1 g8
    have eTB8 := g8.2 _ _ nTBb eTB7'
    have hst8 : SqT K H8 st [.int f, .int l] := sqT_ts (g8.ts g7'.1) hst7
    have G8 : Gr b H2 H8 := (((((g3.trans gp).trans g4).trans g5).trans g6).trans g7).trans (g7'.trans g8)
    have lrs := read_len hrd
    refine ⟨t, _, rfl, .inl (.inl et), rfl, _, _, rfl, _, _, rfl, rfl, ?_⟩
    obtain ⟨ro, ru, erv, hro, hrv⟩ : ∃ ro ru, u = .ref ro ∧ SqT K H8 ro ru ∧ DVs K H8 ru (rs.map rowD) := by
      cases hu with
      | tup a1 a2 => exact ⟨_, _, rfl, a1, a2⟩
    subst erv
    -- some
    refine ⟨fun σ' H' => Gr b H8 H' ∧ ∃ S acc, σ' = [some (.ref a), some (.int (0 + i)), some (.ref b), some (.ref p), some v, some (.ref D), some (.ref TB), some (.ref st), some (.int lo), some (.ref ro), some (.ref mo), some (.ref S), x12, x13, x14, x15, x16, x17, x18] ∧ H' S = some (.lst acc) ∧ (∀ x ∈ acc, TD K H' x) ∧ acc.length = 4, ?_, fun σ' H' m => ?_⟩
    · refine ⟨b, ro, ru, rs, rfl, g8.1, hro, hrv, by omega, fun t1 xs1 rs1 Ha n1 ga e1 h1 b1 => ?_⟩
      have hroa := sqT_ts (ga.ts g8.1) hro
      have hrva := hrv.ts (ga.ts g8.1) (noLs_map rowD noL_row rs)
      refine ⟨b, ro, ru, rs, rfl, ga.1, hroa, hrva, by omega, fun t2 xs2 rs2 Hb n2 gb e2 h2 b2 => ⟨l0, fun E0 hE => ⟨l4, fun S nS => ?_⟩⟩⟩
      have sE := same_upd (o := .tup []) hE
      have sS := same_upd (o := .lst [.ref ro, .ref t1, .ref t2, .ref E0]) nS
      have gE := Gr.new (o := .tup []) gb.1 hE
      have tb := gb.ts ga.1
      refine ⟨((ga.trans gb).trans gE).trans (Gr.new gE.1 nS), S, _, rfl, upd_same, fun x hx => ?_, rfl⟩
      simp only [List.mem_cons, List.not_mem_nil, or_false] at hx
      have s12 := sE.trans sS
      rcases hx with rfl | rfl | rfl | rfl
      · exact ⟨ro, ru, rs, rfl, same_tup s12 (sqT_ts tb hroa), DVs.same s12 (hrva.ts tb (noLs_map rowD noL_row rs)), by omega⟩
      · exact ⟨t1, xs1, rs1, rfl, same_tup s12 (sqT_ts tb (.inl (.inl e1))), DVs.same s12 (h1.ts tb (noLs_map rowD noL_row rs1)), by omega⟩
      · exact ⟨t2, xs2, rs2, rfl, same_tup s12 (.inl (.inl e2)), DVs.same s12 h2, by omega⟩
      · exact ⟨E0, [], [], rfl, .inl (.inl (sS _ _ upd_same)), .nil, Nat.zero_le _⟩
    · obtain ⟨g9, S, acc, rfl, eS, hT, la⟩ := m
      have hL9 := hL8.gr g8.1 nDb g9
      have tabs9 := tabs8.gr g8.1 g9
      have eTB9 := g9.2 _ _ nTBb eTB8
      have hst9 := sqT_ts (g9.ts g8.1) hst8
      have G9 := G8.trans g9
      generalize H' = H9 at *
      have eD9 := hL9.2.2.2.1
      refine lc_sq (K := K) acc (.inl (SqL.of eS)) (fun k C H3 => Same H9 H3 ∧ ∃ ac2, H3 C = some (.lst ac2) ∧ ac2.length ≤ k ∧ ∀ x ∈ ac2, ∃ (q : Addr) (xs : List V) (rs : List Rw), x = .ref q ∧ SqT K H9 q xs ∧ DVs K H9 xs (rs.map rowD) ∧ rs.length < 4) (fun C nC => ⟨same_upd nC, [], upd_same, Nat.le_refl _, fun x hx => by cases hx⟩) (fun k C H3 nC pv o ho => pv.1 _ _ ho) (fun k x C H3 ltk hx nC pv => ?_) (fun C H3 nC pv => ?_)
      · obtain ⟨s3, ac2, eC, lac, hac⟩ := pv
        obtain ⟨q1, xs1, rs1, rfl, h1, h2, h3⟩ := hT x (List.mem_of_getElem? hx)
        have lx1 : xs1.length = rs1.length := by rw [h2.length, List.length_map]
        refine ⟨rfl, xs1, .inr (same_tup s3 h1), ite2 (fun c => ?_) (fun c => ⟨s3, ac2, eC, by omega, hac⟩)⟩
        have c : ((xs1.length : Nat) : Int) < 4 := of_decide_eq_true c
        refine ⟨ac2, eC, line_lt (by omega), same_put s3 nC, ac2 ++ [.ref q1], upd_same, by rw [List.length_append, List.length_singleton]; omega, fun x hx => ?_⟩
        rcases List.mem_append.mp hx with z | z
        · exact hac x z
        · cases List.mem_singleton.mp z
          exact ⟨q1, xs1, rs1, rfl, h1, h2, by omega⟩
      · obtain ⟨s3, ac2, eC, lac, hac⟩ := pv
        have hL3 := hL9.same s3
        have tabs3 := tabs9.same s3
        have eTB3 := s3 _ _ eTB9
        have hst3 := same_tup s3 hst9
        refine for_sq (K := K) ac2 (.inl (SqL.of eC)) (fun k σ H' => Same H3 H' ∧ ∃ z12 z13 z14 z15 z16 z17 z18, σ = [some (.ref a), some (.int (0 + i)), some (.ref b), some (.ref p), some v, some (.ref D), some (.ref TB), some (.ref st), some (.int lo), some (.ref ro), some (.ref mo), some (.ref S), z12, z13, z14, z15, z16, z17, z18]) ⟨Same.refl _, _, _, _, _, _, _, _, rfl⟩ (fun k σ H' pv o ho => pv.1 _ _ ho) (fun k x σ Hk ltk hx pv => ?_) (fun σ Hk pv => ?_)
        · obtain ⟨sk, z12, z13, z14, z15, z16, z17, z18, rfl⟩ := pv
          obtain ⟨q1, xs1, rs1, rfl, h1, h2, h3⟩ := hac x (List.mem_of_getElem? hx)
          have h1k := same_tup (s3.trans sk) h1
          have h2k := DVs.same (s3.trans sk) h2
          have lx1 : xs1.length = rs1.length := by rw [h2.length, List.length_map]
          have eDk := sk _ _ hL3.2.2.2.1
          have cd : CDivW ((lo : Int) + (vs.length : Nat)) 2 := wide_div (b := 10) (by decide) (by decide) (by decide) (by decide)
          refine ⟨vs, .inl (SqL.of eDk), l2, fun t1 n1 => ?_⟩
          have sa1 := same_upd (o := .tup [.int lo, .int (vs.length : Nat)]) n1
          refine ⟨vs, .inl (SqL.of (sa1 _ _ eDk)), l2, fun t2 n2 => ?_⟩
          have sa2 := same_upd (o := .tup [.int 0, .int (vs.length : Nat)]) n2
          refine ⟨l2, fun t3 n3 => ?_⟩
          have sa3 := same_upd (o := .tup [.int lo, .int lo]) n3
          refine ⟨vs, .inl (SqL.of (sa3 _ _ (sa2 _ _ (sa1 _ _ eDk)))), cd, l2, fun t4 n4 => ⟨l4, fun Z nZ => ?_⟩⟩
          have sa4 := same_upd (o := .tup [.int lo, .int (((lo : Int) + (vs.length : Nat)) / 2)]) n4
          have sa5 := same_upd (o := .lst [.ref t1, .ref t2, .ref t3, .ref t4]) nZ
          have SZ := (((sa1.trans sa2).trans sa3).trans sa4).trans sa5
          have eZ : (upd (upd (upd (upd (upd Hk t1 (.tup [.int lo, .int (vs.length : Nat)])) t2 (.tup [.int 0, .int (vs.length : Nat)])) t3 (.tup [.int lo, .int lo])) t4 (.tup [.int lo, .int (((lo : Int) + (vs.length : Nat)) / 2)])) Z (.lst [.ref t1, .ref t2, .ref t3, .ref t4])) Z = some (.lst [.ref t1, .ref t2, .ref t3, .ref t4]) := upd_same
          have four : ∀ x ∈ [V.ref t1, .ref t2, .ref t3, .ref t4], ∃ (t : Addr) (lo' hi' : Nat), x = .ref t ∧ SqT K (upd (upd (upd (upd (upd Hk t1 (.tup [.int lo, .int (vs.length : Nat)])) t2 (.tup [.int 0, .int (vs.length : Nat)])) t3 (.tup [.int lo, .int lo])) t4 (.tup [.int lo, .int (((lo : Int) + (vs.length : Nat)) / 2)])) Z (.lst [.ref t1, .ref t2, .ref t3, .ref t4])) t [.int lo', .int hi'] ∧ lo' ≤ hi' ∧ hi' ≤ es.length := fun x hx => by
            simp only [List.mem_cons, List.not_mem_nil, or_false] at hx
            rcases hx with rfl | rfl | rfl | rfl
            · exact ⟨t1, lo, vs.length, rfl, .inl (.inl (sa5 _ _ (sa4 _ _ (sa3 _ _ (sa2 _ _ upd_same))))), by omega, by omega⟩
            · exact ⟨t2, 0, vs.length, rfl, .inl (.inl (sa5 _ _ (sa4 _ _ (sa3 _ _ upd_same)))), by omega, by omega⟩
            · exact ⟨t3, lo, lo, rfl, .inl (.inl (sa5 _ _ (sa4 _ _ upd_same))), by omega, by omega⟩
            · refine ⟨t4, lo, (lo + vs.length) / 2, rfl, ?_, by omega, by omega⟩
              rw [show (((lo + vs.length) / 2 : Nat) : Int) = ((lo : Int) + (vs.length : Nat)) / 2 by omega]
              exact .inl (.inl (sa5 _ _ upd_same))
          generalize upd (upd (upd (upd (upd Hk t1 (.tup [.int lo, .int (vs.length : Nat)])) t2 (.tup [.int 0, .int (vs.length : Nat)])) t3 (.tup [.int lo, .int lo])) t4 (.tup [.int lo, .int (((lo : Int) + (vs.length : Nat)) / 2)])) Z (.lst [.ref t1, .ref t2, .ref t3, .ref t4]) = HZ at *
          refine for_sq (K := K) [.ref t1, .ref t2, .ref t3, .ref t4] (.inl (SqL.of eZ)) (fun k σ H' => Same HZ H' ∧ ∃ z13 z14 z15 z16 z17 z18, σ = [some (.ref a), some (.int (0 + i)), some (.ref b), some (.ref p), some v, some (.ref D), some (.ref TB), some (.ref st), some (.int lo), some (.ref ro), some (.ref mo), some (.ref S), some (.ref q1), z13, z14, z15, z16, z17, z18]) ⟨Same.refl _, _, _, _, _, _, _, rfl⟩ (fun k σ H' pv o ho => pv.1 _ _ ho) (fun k x σ Hm ltm hx pv => ?_) (fun σ Hm pv => ?_)
          · obtain ⟨sm, w13, w14, w15, w16, w17, w18, rfl⟩ := pv
            obtain ⟨t', lo', hi', rfl, ht', lh, he'⟩ := four x (List.mem_of_getElem? hx)
            have SM := (sk.trans SZ).trans sm
            refine ⟨t', _, rfl, same_tup sm ht', rfl, _, _, rfl, _, _, rfl, rfl, ?_⟩
            refine ⟨xs1, .inr (same_tup (SZ.trans sm) h1k), lo', hi', xs1.length + 1, rfl, lh, by omega, by omega, fun A ps Ha nA sa eA hps => ?_⟩
            have SA := SM.trans sa
            rw [lx1] at hps
            obtain ⟨zz1, zz2, zz3⟩ := PR.zip hps
            have fo := filt_one (fun ms => decide (readM (tabsAt rows es (es.length + 1)) l f ms = some rs1)) ((ps.map V.ref).zip (riseC hi' (rs1.length + 1) lo'))
            rw [zz2, least_is] at fo
            have hdv1 : DV K Ha (.ref q1) (tabD rs1) := .tup (same_tup ((SZ.trans sm).trans sa) h1k) (DVs.same ((SZ.trans sm).trans sa) h2k)
            have lz : ((ps.map V.ref).zip (riseC hi' (rs1.length + 1) lo')).length < sizeLine := by
              rw [← List.length_map (f := (·.2)), zz2]
              refine line_lt (Nat.le_trans (riseC_len hi' (rs1.length + 1) lo') ?_)
              refine Nat.le_trans (Nat.pow_le_pow_left (show hi' + 1 ≤ 6 by omega) _) ?_
              exact Nat.le_trans (Nat.pow_le_pow_right (by decide) (show rs1.length + 1 ≤ 4 by omega)) (by decide)
            refine ⟨fun σ' H' => Same Ha H' ∧ ∃ U, σ' = [some (.ref a), some (.int (0 + i)), some (.ref b), some (.ref p), some v, some (.ref D), some (.ref TB), some (.ref st), some (.int lo), some (.ref ro), some (.ref mo), some (.ref S), some (.ref q1), some (.int lo'), some (.int hi'), some (.ref A), some (.ref U), w17, w18] ∧ (match (if (leastM (tabsAt rows es (es.length + 1)) l hi' lo' f rs1).length > rs1.length then some (leastM (tabsAt rows es (es.length + 1)) l hi' lo' f rs1) else none) with
              | none => H' U = some (.lst [])
              | some ms' => ∃ r, H' U = some (.lst [.ref r]) ∧ SqT K H' r (ms'.map fun (m : Nat) => V.int m)), ?_, fun σ' H' m => ?_⟩
            · refine lc_growF ((ps.map V.ref).zip (riseC hi' (rs1.length + 1) lo')) (fun z => decide (readM (tabsAt rows es (es.length + 1)) l f z.2 = some rs1)) (fun z => z.1) (by rw [zz1]; exact .inl (SqL.of eA)) lz (by intro _; rfl) (fun z Hn hz sn Qe qe => ?_) (fun z Hn hz sn e Qe qe => qe _ (Same.refl _)) (fun C2 Hn nC2 sn eC2 => ?_)
              · obtain ⟨r, er, hr2⟩ := zz3 z hz
                rw [er]
                have hzr : z.2 ∈ riseC hi' (rs1.length + 1) lo' := by rw [← zz2]; exact List.mem_map_of_mem hz
                obtain ⟨in1, in2⟩ := riseC_in hzr lh
                exact ⟨TB, st, r, ys, tabsAt rows es (es.length + 1), f, l, z.2, rfl, sn _ _ (SA _ _ eTB3), tabs3.same (SA.trans sn), flen, same_tup (SA.trans sn) hst3, same_tup sn hr2, fun m hm => by have := in1 m hm; omega, by omega, fun u Ho so hu2 => eq_rows hu2 (DV.same (sn.trans so) hdv1) (qe Ho so)⟩
              · refine Or.inl ⟨_, SqL.of eC2, fun U nU => ?_⟩
                rw [cut_one]
                have sU := same_upd (o := .lst (((((ps.map V.ref).zip (riseC hi' (rs1.length + 1) lo')).filter fun z => decide (readM (tabsAt rows es (es.length + 1)) l f z.2 = some rs1)).map fun z => z.1).take 1)) nU
                refine ⟨sn.trans sU, U, rfl, ?_⟩
                revert fo
                cases (if (leastM (tabsAt rows es (es.length + 1)) l hi' lo' f rs1).length > rs1.length then some (leastM (tabsAt rows es (es.length + 1)) l hi' lo' f rs1) else none) with
                | none =>
                  intro fo
                  show _ = some (HO.lst [])
                  rw [upd_same, fo]; rfl
                | some ms' =>
                  rintro ⟨x, rest, y1, y2⟩
                  obtain ⟨r, er, hr2⟩ := zz3 _ y2
                  have er : x = .ref r := er
                  subst er
                  refine ⟨r, ?_, same_tup (sn.trans sU) hr2⟩
                  rw [upd_same, y1]; rfl
            · obtain ⟨sn, U, rfl, hU⟩ := m
              refine ⟨ks, v, rows, D, vs, es, st, q1, lo', hi', f, l, xs1, rs1, rfl, hL3.same (SA.trans sn), lh, he', same_tup (SA.trans sn) hst3, same_tup (((SZ.trans sm).trans sa).trans sn) h1k, DVs.same (((SZ.trans sm).trans sa).trans sn) h2k, by omega, fun u2 Ho so hu2 => ⟨l0, fun E0 hE => ?_⟩⟩
              have sE := same_upd (o := .lst []) hE
              have SO := ((sm.trans sa).trans sn).trans (so.trans sE)
              revert hU hu2
              cases (if (leastM (tabsAt rows es (es.length + 1)) l hi' lo' f rs1).length > rs1.length then some (leastM (tabsAt rows es (es.length + 1)) l hi' lo' f rs1) else none) with
              | none =>
                intro hU hu2
                have hU : H' U = some (.lst []) := hU
                have hu2 : u2 = .non := hu2
                subst hu2
                refine ⟨.list [], .list [], .lst (SqL.of (sE _ _ (so _ _ hU))) .nil, .lst (SqL.of upd_same) .nil, .inr (by show 0 + 1 ≤ 60; omega), ?_⟩
                exact ⟨.none, .none, .non, .non, .inl (Nat.zero_le _), SO, _, _, _, _, _, _, rfl⟩
              | some ms' =>
                rintro ⟨r, eU, hr2⟩ ⟨q', rfl, hq'⟩
                have eU2 := sE _ _ (so _ _ eU)
                have hr3 := same_tup (so.trans sE) hr2
                have hq3 := same_tup sE hq'
                refine ⟨.list [.tuple (ms'.map fun (m : Nat) => PyData.int m)], .list [], .lst (SqL.of eU2) (.cons (.tup hr3 (dps_nats ms')) .nil), .lst (SqL.of upd_same) .nil, .inr (by show 0 + 1 ≤ 60; omega), ?_⟩
                refine ⟨_, _, .inl (SqL.of eU2), at0, .tuple (ms'.map fun (m : Nat) => PyData.int m), .tuple (ms'.map fun (m : Nat) => PyData.int m), .tup hq3 (dps_nats ms'), .tup hr3 (dps_nats ms'), .inl (by show PyData.depthAll _ + 1 ≤ 60; rw [depth_nats]; omega), ?_⟩
                rw [show PyData.eqv (.tuple (ms'.map fun (m : Nat) => PyData.int m)) (.tuple (ms'.map fun (m : Nat) => PyData.int m)) = true from eqv_nats ms']
                exact ⟨SO, _, _, _, _, _, _, rfl⟩
          · obtain ⟨sm, w13, w14, w15, w16, w17, w18, rfl⟩ := pv
            exact ⟨(sk.trans SZ).trans sm, _, _, _, _, _, _, _, rfl⟩
        · obtain ⟨sk, z12, z13, z14, z15, z16, z17, z18, rfl⟩ := pv
          exact ⟨(G9.base s2 nbH).trans (s3.trans sk), _, _, _, _, _, _, _, _, _, _, _, _, _, _, _, _, _, _, rfl⟩

end

theorem all_mk {l : PySem.W.OpenLaw} {w : World} {K : PySem.W.Frag} {h : Heap} {mg : Str → Option Value} {fa f1 f2 f3 f4 f5 f6 f7 f8 f9 f10 f11 f12 f13 f14 f15 f16 f17 f18 f19 f20 f21 f22 f23 f24 f25 f26 f27 f28 : Addr} (X : K.In h) (G : h.Ns mainGlobals mg) (hfa : mg "law" = some (.ref fa))
    {od1 an1 : Option Addr} {sl1 : Array (Option Value)} {oc1 kV1 dc1 pm1 cd1 ct1 : Value} {od2 an2 : Option Addr} {sl2 : Array (Option Value)} {oc2 kV2 dc2 pm2 cd2 ct2 : Value} {od3 an3 : Option Addr} {sl3 : Array (Option Value)} {oc3 kV3 dc3 pm3 cd3 ct3 : Value} {od4 an4 : Option Addr} {sl4 : Array (Option Value)} {oc4 kV4 dc4 pm4 cd4 ct4 : Value} {od5 an5 : Option Addr} {sl5 : Array (Option Value)} {oc5 kV5 dc5 pm5 cd5 ct5 : Value} {od6 an6 : Option Addr} {sl6 : Array (Option Value)} {oc6 kV6 dc6 pm6 cd6 ct6 : Value} {od7 an7 : Option Addr} {sl7 : Array (Option Value)} {oc7 kV7 dc7 pm7 cd7 ct7 : Value} {od8 an8 : Option Addr} {sl8 : Array (Option Value)} {oc8 kV8 dc8 pm8 cd8 ct8 : Value} {od9 an9 : Option Addr} {sl9 : Array (Option Value)} {oc9 kV9 dc9 pm9 cd9 ct9 : Value} {od10 an10 : Option Addr} {sl10 : Array (Option Value)} {oc10 kV10 dc10 pm10 cd10 ct10 : Value} {od11 an11 : Option Addr} {sl11 : Array (Option Value)} {oc11 kV11 dc11 pm11 cd11 ct11 : Value} {od12 an12 : Option Addr} {sl12 : Array (Option Value)} {oc12 kV12 dc12 pm12 cd12 ct12 : Value} {od13 an13 : Option Addr} {sl13 : Array (Option Value)} {oc13 kV13 dc13 pm13 cd13 ct13 : Value} {od14 an14 : Option Addr} {sl14 : Array (Option Value)} {oc14 kV14 dc14 pm14 cd14 ct14 : Value} {od15 an15 : Option Addr} {sl15 : Array (Option Value)} {oc15 kV15 dc15 pm15 cd15 ct15 : Value} {od16 an16 : Option Addr} {sl16 : Array (Option Value)} {oc16 kV16 dc16 pm16 cd16 ct16 : Value} {od17 an17 : Option Addr} {sl17 : Array (Option Value)} {oc17 kV17 dc17 pm17 cd17 ct17 : Value} {od18 an18 : Option Addr} {sl18 : Array (Option Value)} {oc18 kV18 dc18 pm18 cd18 ct18 : Value} {od19 an19 : Option Addr} {sl19 : Array (Option Value)} {oc19 kV19 dc19 pm19 cd19 ct19 : Value} {od20 an20 : Option Addr} {sl20 : Array (Option Value)} {oc20 kV20 dc20 pm20 cd20 ct20 : Value} {od21 an21 : Option Addr} {sl21 : Array (Option Value)} {oc21 kV21 dc21 pm21 cd21 ct21 : Value} {od22 an22 : Option Addr} {sl22 : Array (Option Value)} {oc22 kV22 dc22 pm22 cd22 ct22 : Value} {od23 an23 : Option Addr} {sl23 : Array (Option Value)} {oc23 kV23 dc23 pm23 cd23 ct23 : Value} {od24 an24 : Option Addr} {sl24 : Array (Option Value)} {oc24 kV24 dc24 pm24 cd24 ct24 : Value} {od25 an25 : Option Addr} {sl25 : Array (Option Value)} {oc25 kV25 dc25 pm25 cd25 ct25 : Value} {od26 an26 : Option Addr} {sl26 : Array (Option Value)} {oc26 kV26 dc26 pm26 cd26 ct26 : Value} {od27 an27 : Option Addr} {sl27 : Array (Option Value)} {oc27 kV27 dc27 pm27 cd27 ct27 : Value} {od28 an28 : Option Addr} {sl28 : Array (Option Value)} {oc28 kV28 dc28 pm28 cd28 ct28 : Value}
    (a1 : PySem.W.nsIn K mainGlobals "changes_of" = some (some (.ref f1))) (l1 : K.lookup f1 = some ⟨oc1, od1, .func (PySem.W.fnOf "changes_of" "changes_of" (defArgs s_changes_of) (defBody s_changes_of) (defScope s_changes_of) .none kV1 dc1 pm1 an1 cd1 ct1), sl1⟩) (c1 : PySem.W.codeIn K cd1 "changes_of" = true) (k1 : PySem.W.keepIn K (.ref f1) = true)
    (a2 : PySem.W.nsIn K mainGlobals "put_change" = some (some (.ref f2))) (l2 : K.lookup f2 = some ⟨oc2, od2, .func (PySem.W.fnOf "put_change" "put_change" (defArgs s_put_change) (defBody s_put_change) (defScope s_put_change) .none kV2 dc2 pm2 an2 cd2 ct2), sl2⟩) (c2 : PySem.W.codeIn K cd2 "put_change" = true) (k2 : PySem.W.keepIn K (.ref f2) = true)
    (a3 : PySem.W.nsIn K mainGlobals "pairs_of" = some (some (.ref f3))) (l3 : K.lookup f3 = some ⟨oc3, od3, .func (PySem.W.fnOf "pairs_of" "pairs_of" (defArgs s_pairs_of) (defBody s_pairs_of) (defScope s_pairs_of) .none kV3 dc3 pm3 an3 cd3 ct3), sl3⟩) (c3 : PySem.W.codeIn K cd3 "pairs_of" = true) (k3 : PySem.W.keepIn K (.ref f3) = true)
    (a4 : PySem.W.nsIn K mainGlobals "need_place" = some (some (.ref f4))) (l4 : K.lookup f4 = some ⟨oc4, od4, .func (PySem.W.fnOf "need_place" "need_place" (defArgs s_need_place) (defBody s_need_place) (defScope s_need_place) .none kV4 dc4 pm4 an4 cd4 ct4), sl4⟩) (c4 : PySem.W.codeIn K cd4 "need_place" = true) (k4 : PySem.W.keepIn K (.ref f4) = true)
    (a5 : PySem.W.nsIn K mainGlobals "all_tables" = some (some (.ref f5))) (l5 : K.lookup f5 = some ⟨oc5, od5, .func (PySem.W.fnOf "all_tables" "all_tables" (defArgs s_all_tables) (defBody s_all_tables) (defScope s_all_tables) .none kV5 dc5 pm5 an5 cd5 ct5), sl5⟩) (c5 : PySem.W.codeIn K cd5 "all_tables" = true) (k5 : PySem.W.keepIn K (.ref f5) = true)
    (a6 : PySem.W.nsIn K mainGlobals "found_at" = some (some (.ref f6))) (l6 : K.lookup f6 = some ⟨oc6, od6, .func (PySem.W.fnOf "found_at" "found_at" (defArgs s_found_at) (defBody s_found_at) (defScope s_found_at) .none kV6 dc6 pm6 an6 cd6 ct6), sl6⟩) (c6 : PySem.W.codeIn K cd6 "found_at" = true) (k6 : PySem.W.keepIn K (.ref f6) = true)
    (a7 : PySem.W.nsIn K mainGlobals "least_moments" = some (some (.ref f7))) (l7 : K.lookup f7 = some ⟨oc7, od7, .func (PySem.W.fnOf "least_moments" "least_moments" (defArgs s_least_moments) (defBody s_least_moments) (defScope s_least_moments) .none kV7 dc7 pm7 an7 cd7 ct7), sl7⟩) (c7 : PySem.W.codeIn K cd7 "least_moments" = true) (k7 : PySem.W.keepIn K (.ref f7) = true)
    (a8 : PySem.W.nsIn K mainGlobals "moments" = some (some (.ref f8))) (l8 : K.lookup f8 = some ⟨oc8, od8, .func (PySem.W.fnOf "moments" "moments" (defArgs s_moments) (defBody s_moments) (defScope s_moments) .none kV8 dc8 pm8 an8 cd8 ct8), sl8⟩) (c8 : PySem.W.codeIn K cd8 "moments" = true) (k8 : PySem.W.keepIn K (.ref f8) = true)
    (a9 : PySem.W.nsIn K mainGlobals "_law_bag" = some (some (.ref f9))) (l9 : K.lookup f9 = some ⟨oc9, od9, .func (PySem.W.fnOf "_law_bag" "_law_bag" (defArgs s__law_bag) (defBody s__law_bag) (defScope s__law_bag) .none kV9 dc9 pm9 an9 cd9 ct9), sl9⟩) (c9 : PySem.W.codeIn K cd9 "_law_bag" = true) (k9 : PySem.W.keepIn K (.ref f9) = true)
    (a10 : PySem.W.nsIn K mainGlobals "_law_take" = some (some (.ref f10))) (l10 : K.lookup f10 = some ⟨oc10, od10, .func (PySem.W.fnOf "_law_take" "_law_take" (defArgs s__law_take) (defBody s__law_take) (defScope s__law_take) .none kV10 dc10 pm10 an10 cd10 ct10), sl10⟩) (c10 : PySem.W.codeIn K cd10 "_law_take" = true) (k10 : PySem.W.keepIn K (.ref f10) = true)
    (a11 : PySem.W.nsIn K mainGlobals "_law_of" = some (some (.ref f11))) (l11 : K.lookup f11 = some ⟨oc11, od11, .func (PySem.W.fnOf "_law_of" "_law_of" (defArgs s__law_of) (defBody s__law_of) (defScope s__law_of) .none kV11 dc11 pm11 an11 cd11 ct11), sl11⟩) (c11 : PySem.W.codeIn K cd11 "_law_of" = true) (k11 : PySem.W.keepIn K (.ref f11) = true)
    (a12 : PySem.W.nsIn K mainGlobals "_law_keys" = some (some (.ref f12))) (l12 : K.lookup f12 = some ⟨oc12, od12, .func (PySem.W.fnOf "_law_keys" "_law_keys" (defArgs s__law_keys) (defBody s__law_keys) (defScope s__law_keys) .none kV12 dc12 pm12 an12 cd12 ct12), sl12⟩) (c12 : PySem.W.codeIn K cd12 "_law_keys" = true) (k12 : PySem.W.keepIn K (.ref f12) = true)
    (a13 : PySem.W.nsIn K mainGlobals "_law_table" = some (some (.ref f13))) (l13 : K.lookup f13 = some ⟨oc13, od13, .func (PySem.W.fnOf "_law_table" "_law_table" (defArgs s__law_table) (defBody s__law_table) (defScope s__law_table) .none kV13 dc13 pm13 an13 cd13 ct13), sl13⟩) (c13 : PySem.W.codeIn K cd13 "_law_table" = true) (k13 : PySem.W.keepIn K (.ref f13) = true)
    (a14 : PySem.W.nsIn K mainGlobals "_law_changes" = some (some (.ref f14))) (l14 : K.lookup f14 = some ⟨oc14, od14, .func (PySem.W.fnOf "_law_changes" "_law_changes" (defArgs s__law_changes) (defBody s__law_changes) (defScope s__law_changes) .none kV14 dc14 pm14 an14 cd14 ct14), sl14⟩) (c14 : PySem.W.codeIn K cd14 "_law_changes" = true) (k14 : PySem.W.keepIn K (.ref f14) = true)
    (a15 : PySem.W.nsIn K mainGlobals "_law_entry" = some (some (.ref f15))) (l15 : K.lookup f15 = some ⟨oc15, od15, .func (PySem.W.fnOf "_law_entry" "_law_entry" (defArgs s__law_entry) (defBody s__law_entry) (defScope s__law_entry) .none kV15 dc15 pm15 an15 cd15 ct15), sl15⟩) (c15 : PySem.W.codeIn K cd15 "_law_entry" = true) (k15 : PySem.W.keepIn K (.ref f15) = true)
    (a16 : PySem.W.nsIn K mainGlobals "_law_log" = some (some (.ref f16))) (l16 : K.lookup f16 = some ⟨oc16, od16, .func (PySem.W.fnOf "_law_log" "_law_log" (defArgs s__law_log) (defBody s__law_log) (defScope s__law_log) .none kV16 dc16 pm16 an16 cd16 ct16), sl16⟩) (c16 : PySem.W.codeIn K cd16 "_law_log" = true) (k16 : PySem.W.keepIn K (.ref f16) = true)
    (a17 : PySem.W.nsIn K mainGlobals "_law_done" = some (some (.ref f17))) (l17 : K.lookup f17 = some ⟨oc17, od17, .func (PySem.W.fnOf "_law_done" "_law_done" (defArgs s__law_done) (defBody s__law_done) (defScope s__law_done) .none kV17 dc17 pm17 an17 cd17 ct17), sl17⟩) (c17 : PySem.W.codeIn K cd17 "_law_done" = true) (k17 : PySem.W.keepIn K (.ref f17) = true)
    (a18 : PySem.W.nsIn K mainGlobals "_law_pairs" = some (some (.ref f18))) (l18 : K.lookup f18 = some ⟨oc18, od18, .func (PySem.W.fnOf "_law_pairs" "_law_pairs" (defArgs s__law_pairs) (defBody s__law_pairs) (defScope s__law_pairs) .none kV18 dc18 pm18 an18 cd18 ct18), sl18⟩) (c18 : PySem.W.codeIn K cd18 "_law_pairs" = true) (k18 : PySem.W.keepIn K (.ref f18) = true)
    (a19 : PySem.W.nsIn K mainGlobals "_law_groups" = some (some (.ref f19))) (l19 : K.lookup f19 = some ⟨oc19, od19, .func (PySem.W.fnOf "_law_groups" "_law_groups" (defArgs s__law_groups) (defBody s__law_groups) (defScope s__law_groups) .none kV19 dc19 pm19 an19 cd19 ct19), sl19⟩) (c19 : PySem.W.codeIn K cd19 "_law_groups" = true) (k19 : PySem.W.keepIn K (.ref f19) = true)
    (a20 : PySem.W.nsIn K mainGlobals "_law_at" = some (some (.ref f20))) (l20 : K.lookup f20 = some ⟨oc20, od20, .func (PySem.W.fnOf "_law_at" "_law_at" (defArgs s__law_at) (defBody s__law_at) (defScope s__law_at) .none kV20 dc20 pm20 an20 cd20 ct20), sl20⟩) (c20 : PySem.W.codeIn K cd20 "_law_at" = true) (k20 : PySem.W.keepIn K (.ref f20) = true)
    (a21 : PySem.W.nsIn K mainGlobals "_law_find" = some (some (.ref f21))) (l21 : K.lookup f21 = some ⟨oc21, od21, .func (PySem.W.fnOf "_law_find" "_law_find" (defArgs s__law_find) (defBody s__law_find) (defScope s__law_find) .none kV21 dc21 pm21 an21 cd21 ct21), sl21⟩) (c21 : PySem.W.codeIn K cd21 "_law_find" = true) (k21 : PySem.W.keepIn K (.ref f21) = true)
    (a22 : PySem.W.nsIn K mainGlobals "_law_read" = some (some (.ref f22))) (l22 : K.lookup f22 = some ⟨oc22, od22, .func (PySem.W.fnOf "_law_read" "_law_read" (defArgs s__law_read) (defBody s__law_read) (defScope s__law_read) .none kV22 dc22 pm22 an22 cd22 ct22), sl22⟩) (c22 : PySem.W.codeIn K cd22 "_law_read" = true) (k22 : PySem.W.keepIn K (.ref f22) = true)
    (a23 : PySem.W.nsIn K mainGlobals "_law_tables" = some (some (.ref f23))) (l23 : K.lookup f23 = some ⟨oc23, od23, .func (PySem.W.fnOf "_law_tables" "_law_tables" (defArgs s__law_tables) (defBody s__law_tables) (defScope s__law_tables) .none kV23 dc23 pm23 an23 cd23 ct23), sl23⟩) (c23 : PySem.W.codeIn K cd23 "_law_tables" = true) (k23 : PySem.W.keepIn K (.ref f23) = true)
    (a24 : PySem.W.nsIn K mainGlobals "_law_stretch" = some (some (.ref f24))) (l24 : K.lookup f24 = some ⟨oc24, od24, .func (PySem.W.fnOf "_law_stretch" "_law_stretch" (defArgs s__law_stretch) (defBody s__law_stretch) (defScope s__law_stretch) .none kV24 dc24 pm24 an24 cd24 ct24), sl24⟩) (c24 : PySem.W.codeIn K cd24 "_law_stretch" = true) (k24 : PySem.W.keepIn K (.ref f24) = true)
    (a25 : PySem.W.nsIn K mainGlobals "_law_real_reading" = some (some (.ref f25))) (l25 : K.lookup f25 = some ⟨oc25, od25, .func (PySem.W.fnOf "_law_real_reading" "_law_real_reading" (defArgs s__law_real_reading) (defBody s__law_real_reading) (defScope s__law_real_reading) .none kV25 dc25 pm25 an25 cd25 ct25), sl25⟩) (c25 : PySem.W.codeIn K cd25 "_law_real_reading" = true) (k25 : PySem.W.keepIn K (.ref f25) = true)
    (a26 : PySem.W.nsIn K mainGlobals "_law_other_rows" = some (some (.ref f26))) (l26 : K.lookup f26 = some ⟨oc26, od26, .func (PySem.W.fnOf "_law_other_rows" "_law_other_rows" (defArgs s__law_other_rows) (defBody s__law_other_rows) (defScope s__law_other_rows) .none kV26 dc26 pm26 an26 cd26 ct26), sl26⟩) (c26 : PySem.W.codeIn K cd26 "_law_other_rows" = true) (k26 : PySem.W.keepIn K (.ref f26) = true)
    (a27 : PySem.W.nsIn K mainGlobals "_law_all_rising" = some (some (.ref f27))) (l27 : K.lookup f27 = some ⟨oc27, od27, .func (PySem.W.fnOf "_law_all_rising" "_law_all_rising" (defArgs s__law_all_rising) (defBody s__law_all_rising) (defScope s__law_all_rising) .none kV27 dc27 pm27 an27 cd27 ct27), sl27⟩) (c27 : PySem.W.codeIn K cd27 "_law_all_rising" = true) (k27 : PySem.W.keepIn K (.ref f27) = true)
    (a28 : PySem.W.nsIn K mainGlobals "law" = some (some (.ref f28))) (l28 : K.lookup f28 = some ⟨oc28, od28, .func (PySem.W.fnOf "law" "law" (defArgs s_law) (defBody s_law) (defScope s_law) .none kV28 dc28 pm28 an28 cd28 ct28), sl28⟩) (c28 : PySem.W.codeIn K cd28 "law" = true) (k28 : PySem.W.keepIn K (.ref f28) = true)
    (z0 : PySem.W.nsIn K mainGlobals "tuple" = some none)
    (z1 : PySem.W.nsIn K mainGlobals "sorted" = some none)
    (z2 : PySem.W.nsIn K mainGlobals "dict" = some none)
    (z3 : PySem.W.nsIn K mainGlobals "len" = some none)
    (z4 : PySem.W.nsIn K mainGlobals "list" = some none)
    (z5 : PySem.W.nsIn K mainGlobals "range" = some none)
    (z6 : PySem.W.nsIn K mainGlobals "abs" = some none)
    (z7 : PySem.W.nsIn K mainGlobals "set" = some none)
    (z8 : PySem.W.nsIn K mainGlobals "enumerate" = some none)
    (z9 : PySem.W.nsIn K mainGlobals "min" = some none)
    (z10 : PySem.W.nsIn K mainGlobals "int" = some none) :
    ∃ fd : FuncData, (∀ (s : Shared) (v : Value), BindsTo s fd ⟨[v], []⟩ [("script", v)]) ∧ ∀ base : Heap, K.In base → base.Ns mainGlobals mg → FnOk l.prog w K mg base CX0 6 fa fd ["script"] (Tc.spLaw K) := by
  have e := hfa.symm.trans (PySem.W.mg_of X G a28)
  cases e
  let T : Txt K mg := {
    f_changes_of := f1, fd_changes_of := _, F_changes_of := fun_mk l1 c1 k1, g_changes_of := PySem.W.mg_of X G a1,
    b_changes_of := (fun_mk (st := s_changes_of) l1 c1 k1).binds (ps := ["entry"]) fun _ _ _ _ _ _ us hl => match us, hl with | [_], _ => rfl,
    f_put_change := f2, fd_put_change := _, F_put_change := fun_mk l2 c2 k2, g_put_change := PySem.W.mg_of X G a2,
    b_put_change := (fun_mk (st := s_put_change) l2 c2 k2).binds (ps := ["rows", "change"]) fun _ _ _ _ _ _ us hl => match us, hl with | [_, _], _ => rfl,
    f_pairs_of := f3, fd_pairs_of := _, F_pairs_of := fun_mk l3 c3 k3, g_pairs_of := PySem.W.mg_of X G a3,
    b_pairs_of := (fun_mk (st := s_pairs_of) l3 c3 k3).binds (ps := ["rows"]) fun _ _ _ _ _ _ us hl => match us, hl with | [_], _ => rfl,
    f_need_place := f4, fd_need_place := _, F_need_place := fun_mk l4 c4 k4, g_need_place := PySem.W.mg_of X G a4,
    b_need_place := (fun_mk (st := s_need_place) l4 c4 k4).binds (ps := ["place", "least", "most"]) fun _ _ _ _ _ _ us hl => match us, hl with | [_, _, _], _ => rfl,
    f_all_tables := f5, fd_all_tables := _, F_all_tables := fun_mk l5 c5 k5, g_all_tables := PySem.W.mg_of X G a5,
    b_all_tables := (fun_mk (st := s_all_tables) l5 c5 k5).binds (ps := ["table", "log"]) fun _ _ _ _ _ _ us hl => match us, hl with | [_, _], _ => rfl,
    f_found_at := f6, fd_found_at := _, F_found_at := fun_mk l6 c6 k6, g_found_at := PySem.W.mg_of X G a6,
    b_found_at := (fun_mk (st := s_found_at) l6 c6 k6).binds (ps := ["rows", "first", "last"]) fun _ _ _ _ _ _ us hl => match us, hl with | [_, _, _], _ => rfl,
    f_least_moments := f7, fd_least_moments := _, F_least_moments := fun_mk l7 c7 k7, g_least_moments := PySem.W.mg_of X G a7,
    b_least_moments := (fun_mk (st := s_least_moments) l7 c7 k7).binds (ps := ["table", "log", "bounds", "stretch", "rows"]) fun _ _ _ _ _ _ us hl => match us, hl with | [_, _, _, _, _], _ => rfl,
    f_moments := f8, fd_moments := _, F_moments := fun_mk l8 c8 k8, g_moments := PySem.W.mg_of X G a8,
    b_moments := (fun_mk (st := s_moments) l8 c8 k8).binds (ps := ["table", "log", "low", "high", "stretch", "rows"]) fun _ _ _ _ _ _ us hl => match us, hl with | [_, _, _, _, _, _], _ => rfl,
    f__law_bag := f9, fd__law_bag := _, F__law_bag := fun_mk l9 c9 k9, g__law_bag := PySem.W.mg_of X G a9,
    b__law_bag := (fun_mk (st := s__law_bag) l9 c9 k9).binds (ps := ["script", "k"]) fun _ _ _ _ _ _ us hl => match us, hl with | [_, _], _ => rfl,
    f__law_take := f10, fd__law_take := _, F__law_take := fun_mk l10 c10 k10, g__law_take := PySem.W.mg_of X G a10,
    b__law_take := (fun_mk (st := s__law_take) l10 c10 k10).binds (ps := ["bag", "many"]) fun _ _ _ _ _ _ us hl => match us, hl with | [_, _], _ => rfl,
    f__law_of := f11, fd__law_of := _, F__law_of := fun_mk l11 c11 k11, g__law_of := PySem.W.mg_of X G a11,
    b__law_of := (fun_mk (st := s__law_of) l11 c11 k11).binds (ps := ["bag", "some"]) fun _ _ _ _ _ _ us hl => match us, hl with | [_, _], _ => rfl,
    f__law_keys := f12, fd__law_keys := _, F__law_keys := fun_mk l12 c12 k12, g__law_keys := PySem.W.mg_of X G a12,
    b__law_keys := (fun_mk (st := s__law_keys) l12 c12 k12).binds (ps := ["bag"]) fun _ _ _ _ _ _ us hl => match us, hl with | [_], _ => rfl,
    f__law_table := f13, fd__law_table := _, F__law_table := fun_mk l13 c13 k13, g__law_table := PySem.W.mg_of X G a13,
    b__law_table := (fun_mk (st := s__law_table) l13 c13 k13).binds (ps := ["bag", "keys"]) fun _ _ _ _ _ _ us hl => match us, hl with | [_, _], _ => rfl,
    f__law_changes := f14, fd__law_changes := _, F__law_changes := fun_mk l14 c14 k14, g__law_changes := PySem.W.mg_of X G a14,
    b__law_changes := (fun_mk (st := s__law_changes) l14 c14 k14).binds (ps := ["bag", "keys", "most"]) fun _ _ _ _ _ _ us hl => match us, hl with | [_, _, _], _ => rfl,
    f__law_entry := f15, fd__law_entry := _, F__law_entry := fun_mk l15 c15 k15, g__law_entry := PySem.W.mg_of X G a15,
    b__law_entry := (fun_mk (st := s__law_entry) l15 c15 k15).binds (ps := ["bag", "keys"]) fun _ _ _ _ _ _ us hl => match us, hl with | [_, _], _ => rfl,
    f__law_log := f16, fd__law_log := _, F__law_log := fun_mk l16 c16 k16, g__law_log := PySem.W.mg_of X G a16,
    b__law_log := (fun_mk (st := s__law_log) l16 c16 k16).binds (ps := ["bag", "keys", "most"]) fun _ _ _ _ _ _ us hl => match us, hl with | [_, _, _], _ => rfl,
    f__law_done := f17, fd__law_done := _, F__law_done := fun_mk l17 c17 k17, g__law_done := PySem.W.mg_of X G a17,
    b__law_done := (fun_mk (st := s__law_done) l17 c17 k17).binds (ps := ["rows", "changes"]) fun _ _ _ _ _ _ us hl => match us, hl with | [_, _], _ => rfl,
    f__law_pairs := f18, fd__law_pairs := _, F__law_pairs := fun_mk l18 c18 k18, g__law_pairs := PySem.W.mg_of X G a18,
    b__law_pairs := (fun_mk (st := s__law_pairs) l18 c18 k18).binds (ps := ["rows"]) fun _ _ _ _ _ _ us hl => match us, hl with | [_], _ => rfl,
    f__law_groups := f19, fd__law_groups := _, F__law_groups := fun_mk l19 c19 k19, g__law_groups := PySem.W.mg_of X G a19,
    b__law_groups := (fun_mk (st := s__law_groups) l19 c19 k19).binds (ps := ["log"]) fun _ _ _ _ _ _ us hl => match us, hl with | [_], _ => rfl,
    f__law_at := f20, fd__law_at := _, F__law_at := fun_mk l20 c20 k20, g__law_at := PySem.W.mg_of X G a20,
    b__law_at := (fun_mk (st := s__law_at) l20 c20 k20).binds (ps := ["table", "log", "place"]) fun _ _ _ _ _ _ us hl => match us, hl with | [_, _, _], _ => rfl,
    f__law_find := f21, fd__law_find := _, F__law_find := fun_mk l21 c21 k21, g__law_find := PySem.W.mg_of X G a21,
    b__law_find := (fun_mk (st := s__law_find) l21 c21 k21).binds (ps := ["rows", "first", "last"]) fun _ _ _ _ _ _ us hl => match us, hl with | [_, _, _], _ => rfl,
    f__law_read := f22, fd__law_read := _, F__law_read := fun_mk l22 c22 k22, g__law_read := PySem.W.mg_of X G a22,
    b__law_read := (fun_mk (st := s__law_read) l22 c22 k22).binds (ps := ["tables", "stretch", "times"]) fun _ _ _ _ _ _ us hl => match us, hl with | [_, _, _], _ => rfl,
    f__law_tables := f23, fd__law_tables := _, F__law_tables := fun_mk l23 c23 k23, g__law_tables := PySem.W.mg_of X G a23,
    b__law_tables := (fun_mk (st := s__law_tables) l23 c23 k23).binds (ps := ["table", "log"]) fun _ _ _ _ _ _ us hl => match us, hl with | [_, _], _ => rfl,
    f__law_stretch := f24, fd__law_stretch := _, F__law_stretch := fun_mk l24 c24 k24, g__law_stretch := PySem.W.mg_of X G a24,
    b__law_stretch := (fun_mk (st := s__law_stretch) l24 c24 k24).binds (ps := ["bag", "keys"]) fun _ _ _ _ _ _ us hl => match us, hl with | [_, _], _ => rfl,
    f__law_real_reading := f25, fd__law_real_reading := _, F__law_real_reading := fun_mk l25 c25 k25, g__law_real_reading := PySem.W.mg_of X G a25,
    b__law_real_reading := (fun_mk (st := s__law_real_reading) l25 c25 k25).binds (ps := ["bag", "tables", "stretch", "low", "high"]) fun _ _ _ _ _ _ us hl => match us, hl with | [_, _, _, _, _], _ => rfl,
    f__law_other_rows := f26, fd__law_other_rows := _, F__law_other_rows := fun_mk l26 c26 k26, g__law_other_rows := PySem.W.mg_of X G a26,
    b__law_other_rows := (fun_mk (st := s__law_other_rows) l26 c26 k26).binds (ps := ["bag", "rows"]) fun _ _ _ _ _ _ us hl => match us, hl with | [_, _], _ => rfl,
    f__law_all_rising := f27, fd__law_all_rising := _, F__law_all_rising := fun_mk l27 c27 k27, g__law_all_rising := PySem.W.mg_of X G a27,
    b__law_all_rising := (fun_mk (st := s__law_all_rising) l27 c27 k27).binds (ps := ["low", "high", "many"]) fun _ _ _ _ _ _ us hl => match us, hl with | [_, _, _], _ => rfl,
    f_law := fa, fd_law := _, F_law := fun_mk l28 c28 k28, g_law := PySem.W.mg_of X G a28,
    b_law := (fun_mk (st := s_law) l28 c28 k28).binds (ps := ["script"]) fun _ _ _ _ _ _ us hl => match us, hl with | [_], _ => rfl,
    z_tuple := PySem.W.mg_none_of X G z0,
    z_sorted := PySem.W.mg_none_of X G z1,
    z_dict := PySem.W.mg_none_of X G z2,
    z_len := PySem.W.mg_none_of X G z3,
    z_list := PySem.W.mg_none_of X G z4,
    z_range := PySem.W.mg_none_of X G z5,
    z_abs := PySem.W.mg_none_of X G z6,
    z_set := PySem.W.mg_none_of X G z7,
    z_enumerate := PySem.W.mg_none_of X G z8,
    z_min := PySem.W.mg_none_of X G z9,
    z_int := PySem.W.mg_none_of X G z10 }
  exact ⟨T.fd_law, fun s v => .of_eq rfl, fun base _ _ => ok_law T⟩
end K07
open PySem PySem.W PyProof.Rows
set_option maxHeartbeats 0 in
theorem PySem.Challenge.cw_tidecopy_k07_least_moments_holds : PySem.Challenge.rw_tidecopy_k07_least_moments.Holds := by
  w_on; o_law; k_head; (case hw => w_witness2)
  k_fill
  refine L2.walk_of (l := PySem.Challenge.rw_tidecopy_k07_least_moments) (n := 63) (k := 6) (x := "script") (CX := fun _ => L2.CX0) (sp := fun w => Tc.spLaw _) rfl (by decide) rfl ⟨rfl, by decide, by decide⟩ (fun w h Y => PySem.W.kIn_of Y) ?F (fun _ _ a ns hl _ hS => ⟨a, ns, rfl, hS, hl, fun _ => rfl⟩) (fun _ _ _ _ _ h => h)
  case F =>
    intro w mg fa h KX G hmg
    refine' K07.all_mk KX G hmg ?a1 ?l1 ?c1 ?k1 ?a2 ?l2 ?c2 ?k2 ?a3 ?l3 ?c3 ?k3 ?a4 ?l4 ?c4 ?k4 ?a5 ?l5 ?c5 ?k5 ?a6 ?l6 ?c6 ?k6 ?a7 ?l7 ?c7 ?k7 ?a8 ?l8 ?c8 ?k8 ?a9 ?l9 ?c9 ?k9 ?a10 ?l10 ?c10 ?k10 ?a11 ?l11 ?c11 ?k11 ?a12 ?l12 ?c12 ?k12 ?a13 ?l13 ?c13 ?k13 ?a14 ?l14 ?c14 ?k14 ?a15 ?l15 ?c15 ?k15 ?a16 ?l16 ?c16 ?k16 ?a17 ?l17 ?c17 ?k17 ?a18 ?l18 ?c18 ?k18 ?a19 ?l19 ?c19 ?k19 ?a20 ?l20 ?c20 ?k20 ?a21 ?l21 ?c21 ?k21 ?a22 ?l22 ?c22 ?k22 ?a23 ?l23 ?c23 ?k23 ?a24 ?l24 ?c24 ?k24 ?a25 ?l25 ?c25 ?k25 ?a26 ?l26 ?c26 ?k26 ?a27 ?l27 ?c27 ?k27 ?a28 ?l28 ?c28 ?k28 ?z0 ?z1 ?z2 ?z3 ?z4 ?z5 ?z6 ?z7 ?z8 ?z9 ?z10
    (case a1 => k_is); (case l1 => k_is); (case c1 => k_is); (case k1 => k_is); (case a2 => k_is); (case l2 => k_is); (case c2 => k_is); (case k2 => k_is)
    (case a3 => k_is); (case l3 => k_is); (case c3 => k_is); (case k3 => k_is); (case a4 => k_is); (case l4 => k_is); (case c4 => k_is); (case k4 => k_is)
    (case a5 => k_is); (case l5 => k_is); (case c5 => k_is); (case k5 => k_is); (case a6 => k_is); (case l6 => k_is); (case c6 => k_is); (case k6 => k_is)
    (case a7 => k_is); (case l7 => k_is); (case c7 => k_is); (case k7 => k_is); (case a8 => k_is); (case l8 => k_is); (case c8 => k_is); (case k8 => k_is)
    (case a9 => k_is); (case l9 => k_is); (case c9 => k_is); (case k9 => k_is); (case a10 => k_is); (case l10 => k_is); (case c10 => k_is); (case k10 => k_is)
    (case a11 => k_is); (case l11 => k_is); (case c11 => k_is); (case k11 => k_is); (case a12 => k_is); (case l12 => k_is); (case c12 => k_is); (case k12 => k_is)
    (case a13 => k_is); (case l13 => k_is); (case c13 => k_is); (case k13 => k_is); (case a14 => k_is); (case l14 => k_is); (case c14 => k_is); (case k14 => k_is)
    (case a15 => k_is); (case l15 => k_is); (case c15 => k_is); (case k15 => k_is); (case a16 => k_is); (case l16 => k_is); (case c16 => k_is); (case k16 => k_is)
    (case a17 => k_is); (case l17 => k_is); (case c17 => k_is); (case k17 => k_is); (case a18 => k_is); (case l18 => k_is); (case c18 => k_is); (case k18 => k_is)
    (case a19 => k_is); (case l19 => k_is); (case c19 => k_is); (case k19 => k_is); (case a20 => k_is); (case l20 => k_is); (case c20 => k_is); (case k20 => k_is)
    (case a21 => k_is); (case l21 => k_is); (case c21 => k_is); (case k21 => k_is); (case a22 => k_is); (case l22 => k_is); (case c22 => k_is); (case k22 => k_is)
    (case a23 => k_is); (case l23 => k_is); (case c23 => k_is); (case k23 => k_is); (case a24 => k_is); (case l24 => k_is); (case c24 => k_is); (case k24 => k_is)
    (case a25 => k_is); (case l25 => k_is); (case c25 => k_is); (case k25 => k_is); (case a26 => k_is); (case l26 => k_is); (case c26 => k_is); (case k26 => k_is)
    (case a27 => k_is); (case l27 => k_is); (case c27 => k_is); (case k27 => k_is); (case a28 => k_is); (case l28 => k_is); (case c28 => k_is); (case k28 => k_is)
    (case z0 => k_is); (case z1 => k_is); (case z2 => k_is); (case z3 => k_is); (case z4 => k_is); (case z5 => k_is); (case z6 => k_is); (case z7 => k_is)
    (case z8 => k_is); (case z9 => k_is); (case z10 => k_is)
