import PyProof.Rows.All
import Wide.All
import OpenK.AllK
import Wide.FinOn
import PyProof.EqAt
import PyProof.EqKinds
import PyProof.TupleCall
import HandS.ForMost
import HandS.Wide
import HandS.IsInst
import HandS.SortInts
import HandS.Zip
import HandS.Flow
import KE.DataEq
import PyProof.Rows.IntBool
import HandS.SetFor
import HandS.Strs
import HandS.TupAny
import HandS.Walk
import HandS.Style
import HandS.TupMul
import PySem.Challenge.RW_tidecopy_k02_entries_and_logs_told
set_option Elab.async false
set_option linter.all false
set_option maxRecDepth 100000
/-! Rules whose readings reckon by themselves: values are looked at by match, so that what a step asks is found by unfolding. -/
namespace Tc
open PySem PySem.Spec PyProof.Rows L2
/-! ### weaker readings -/
theorem pe_of {X : Cx} {e : Expr} {t u : TE} (h : PE X e t) (k : ∀ σ H Q, u σ H Q → t σ H Q) : PE X e u := ⟨fun pins s σ H Q I q => h.run pins s σ H Q I (k σ H Q q)⟩
theorem pt_of {X : Cx} {e : Expr} {t u : TT} (h : PT X e t) (k : ∀ σ H Q, u σ H Q → t σ H Q) : PT X e u := ⟨fun pins s σ H Q I q => h.run pins s σ H Q I (k σ H Q q)⟩
theorem op_of {X : Cx} {f : Value → Value → Sem Value} {r u : R2} (h : OpR X f r) (k : ∀ x y H Q, u x y H Q → r x y H Q) : OpR X f u := fun pins s σ H x y v w Q I rx ry q => h pins s σ H x y v w Q I rx ry (k x y H Q q)
/-! ### names -/
def tV (i : Nat) : TE := fun σ H Q => match σ[i]? with
  | some (some v) => Q v H
  | _ => False
theorem pn {X : Cx} (i : Nat) {x : Str} {pos : Pos} (hN : X.N[i]? = some x := by rfl) (hv : Vis X.env.scope x := by first | exact Or.inl rfl | exact Or.inr (Or.inl rfl) | exact Or.inr (Or.inr rfl)) (hd : (x == ("__debug__" : Str)) = false := by decide)
    (hcd : (x == ("__classdict__" : Str)) = false := by decide) : PE X (.Name x pos) (tV i) := pe_of (pe_var hN hv hd hcd) fun σ H Q q => by
  unfold tV at q
  split at q
  · rename_i v e
    exact ⟨v, e, q⟩
  · exact q.elim
/-! ### operators -/
/-- a + b: ints, texts, lists, tuples -/
def rAddG (K : PySem.W.Frag) : R2 := fun x y H Q => match x, y with
  | .int i, .int j => Q (.int (i + j)) H
  | .bl i, .int j => Q (.int ((if i = true then (1 : Int) else 0) + j)) H
  | .str i, .str j => i.length + j.length ≤ sizeLine ∧ Q (.str (i ++ j)) H
  | x, y => rCat x y H Q ∨ rCatT K x y H Q
theorem op_addG {X : Cx} : OpR X (binaryOp .Add) (rAddG X.K) := fun pins s σ H x y v u Q I rx ry q => by
  unfold rAddG at q
  split at q
  · exact op_add pins s σ H _ _ v u Q I rx ry ⟨_, _, rfl, rfl, q⟩
  · cases rx
    obtain ⟨t, rfl⟩ := ry
    exact IntBool.add_bool_int ⟨.int _, H, I.tok _, ⟨_, rfl⟩, q⟩
  · exact op_add_str pins s σ H _ _ v u Q I rx ry ⟨_, _, rfl, rfl, q⟩
  · rcases q with q | q
    · exact op_cat pins s σ H _ _ v u Q I rx ry q
    · exact op_catT pins s σ H _ _ v u Q I rx ry q
/-- two ints -/
def rII (C : Int → Int → Prop) (g : Int → Int → V) : R2 := fun x y H Q => match x, y with
  | .int i, .int j => C i j ∧ Q (g i j) H
  | _, _ => False
def rII0 (g : Int → Int → V) : R2 := fun x y H Q => match x, y with
  | .int i, .int j => Q (g i j) H
  | _, _ => False
theorem op_II {X : Cx} {f : Value → Value → Sem Value} {C : Int → Int → Prop} {g : Int → Int → V} (h : OpR X f (rI C g)) : OpR X f (rII C g) := op_of h fun x y H Q q => by
  unfold rII at q
  split at q
  · exact ⟨_, _, rfl, rfl, q⟩
  · exact q.elim
theorem op_II0 {X : Cx} {f : Value → Value → Sem Value} {g : Int → Int → V} (h : OpR X f (rI0 g)) : OpR X f (rII0 g) := op_of h fun x y H Q q => by
  unfold rII0 at q
  split at q
  · exact ⟨_, _, rfl, rfl, q⟩
  · exact q.elim
def rSubG : R2 := fun x y H Q => match x, y with
  | .int i, .int j => Q (.int (i - j)) H
  | .bl i, .int j => Q (.int ((if i = true then (1 : Int) else 0) - j)) H
  | _, _ => False
theorem op_subG {X : Cx} : OpR X (binaryOp .Sub) rSubG := fun pins s σ H x y v u Q I rx ry q => by
  unfold rSubG at q
  split at q
  · exact op_sub pins s σ H _ _ v u Q I rx ry ⟨_, _, rfl, rfl, q⟩
  · cases rx
    obtain ⟨t, rfl⟩ := ry
    exact IntBool.sub_bool_int ⟨.int _, H, I.tok _, ⟨_, rfl⟩, q⟩
  · exact q.elim
/-- a * b: two ints together below a million bits -/
theorem op_mulG {X : Cx} : OpR X (binaryOp .Mult) (rII CMulW fun i j => .int (i * j)) := op_II op_mulW
theorem op_fdivG {X : Cx} : OpR X (binaryOp .FloorDiv) (rII CDivW fun i j => .int (i / j)) := op_II op_fdivW
theorem op_modG {X : Cx} : OpR X (binaryOp .Mod) (rII (fun _ j => 0 < j) fun i j => .int (i % j)) := op_II op_mod
theorem op_powG {X : Cx} : OpR X (binaryOp .Pow) (rII CPow fun i j => .int (i ^ j.toNat)) := op_II op_pow
def rNegG : V → Hp → VK → Prop := fun x H Q => match x with
  | .int i => Q (.int (-i)) H
  | .bl i => Q (.int (-(if i = true then (1 : Int) else 0))) H
  | _ => False
theorem gives_neg_bool (a : Bool) : Gives (Builtin.«int.__neg__» ⟨[.bool a], []⟩) (.int (-(if a = true then (1 : Int) else 0))) :=
  .of_wp fun M A E s Q h => by obtain ⟨hp, g, d, tk, os⟩ := s; wp_walk; exact ⟨_, rfl, h⟩
theorem un_negG {X : Cx} : UnR X (unaryOp .USub) rNegG := fun pins s σ H x v Q I rx q => by
  unfold rNegG at q
  split at q
  · exact un_neg pins s σ H _ v Q I rx ⟨_, rfl, q⟩
  · cases rx
    exact unaryOp_gives (op := .USub) rfl rfl PySem.F.slot_bool_neg PySem.F.entry_int_neg (PySem.F.args_int_neg_1 _) (gives_neg_bool _) ⟨.int _, H, I.tok _, ⟨_, rfl⟩, q⟩
  · exact q.elim
/-! ### comparisons -/
/-- a < b and its like: ints -/
theorem op_ltG {X : Cx} : OpR X (compareOp .Lt) (rII0 fun i j => .bl (decide (i < j))) := op_II0 op_lt
theorem op_leG {X : Cx} : OpR X (compareOp .LtE) (rII0 fun i j => .bl (decide (i ≤ j))) := op_II0 op_le
theorem op_gtG {X : Cx} : OpR X (compareOp .Gt) (rII0 fun i j => .bl (decide (j < i))) := op_II0 op_gt
theorem op_geG {X : Cx} : OpR X (compareOp .GtE) (rII0 fun i j => .bl (decide (j ≤ i))) := op_II0 op_ge
mutual
theorem dp_plain {K : PySem.W.Frag} {H : Hp} : ∀ {v : V} {d : PyData}, Dp K H v d → d.plain = true
  | _, _, .non => rfl
  | _, _, .bl b => rfl
  | _, _, .int i => rfl
  | _, _, .str x => rfl
  | _, _, .lst h t => by simp only [PyData.plain]; exact dps_plain t
  | _, _, .tup h t => by simp only [PyData.plain]; exact dps_plain t
theorem dps_plain {K : PySem.W.Frag} {H : Hp} : ∀ {v : List V} {d : List PyData}, DpAll K H v d → PyData.plainAll d = true
  | _, _, .nil => rfl
  | _, _, .cons h t => by simp only [PyData.plainAll, dp_plain h, dps_plain t, Bool.and_self]
end
/-- ==, != of data -/
def rEqP (K : PySem.W.Frag) : R2 := fun x y H Q => ∃ d e, Dp K H x d ∧ Dp K H y e ∧ (d.depth ≤ 60 ∨ e.depth ≤ 60) ∧ Q (.bl (PyData.eqv d e)) H
def rNeP (K : PySem.W.Frag) : R2 := fun x y H Q => ∃ d e, Dp K H x d ∧ Dp K H y e ∧ (d.depth ≤ 60 ∨ e.depth ≤ 60) ∧ Q (.bl (!PyData.eqv d e)) H
theorem op_eqP {X : Cx} (hu : X.A.units + 64 < cLine) : OpR X (compareOp .Eq) (rEqP X.K) := fun pins s σ H x y v u Q I rx ry q => by
  obtain ⟨d, e, hd, he, hm, q⟩ := q
  obtain ⟨as, r1⟩ := Dp.reads I d x v hd rx
  obtain ⟨bs, r2⟩ := Dp.reads I e y u he ry
  exact SeqAt.eq_plain r1 r2 (dp_plain hd) (dp_plain he) (by omega) ⟨.bl _, H, I, rfl, q⟩
theorem op_neP {X : Cx} (hu : X.A.units + 64 < cLine) : OpR X (compareOp .NotEq) (rNeP X.K) := fun pins s σ H x y v u Q I rx ry q => by
  obtain ⟨d, e, hd, he, hm, q⟩ := q
  obtain ⟨as, r1⟩ := Dp.reads I d x v hd rx
  obtain ⟨bs, r2⟩ := Dp.reads I e y u he ry
  exact SeqAt.ne_plain r1 r2 (dp_plain hd) (dp_plain he) (by omega) ⟨.bl _, H, I, rfl, q⟩
/-- ==, != -/
def rEqG (K : PySem.W.Frag) : R2 := fun x y H Q => match x, y with
  | .int i, .int j => Q (.bl (decide (i = j))) H
  | .str i, .str j => Q (.bl (decide (i = j))) H
  | .bl i, .bl j => Q (.bl (decide (i = j))) H
  | x, y => rEqP K x y H Q
def rNeG (K : PySem.W.Frag) : R2 := fun x y H Q => match x, y with
  | .int i, .int j => Q (.bl (!decide (i = j))) H
  | .str i, .str j => Q (.bl (!decide (i = j))) H
  | .bl i, .bl j => Q (.bl (!decide (i = j))) H
  | x, y => rNeP K x y H Q
theorem dI {i j : Int} : decide (V.int i = V.int j) = decide (i = j) := by simp
theorem dS {i j : Str} : decide (V.str i = V.str j) = decide (i = j) := by simp
theorem dB {i j : Bool} : decide (V.bl i = V.bl j) = decide (i = j) := by simp
theorem op_eqG {X : Cx} (hu : X.A.units + 64 < cLine) : OpR X (compareOp .Eq) (rEqG X.K) := fun pins s σ H x y v u Q I rx ry q => by
  unfold rEqG at q
  split at q
  · exact op_eq pins s σ H _ _ v u Q I rx ry ⟨rfl, by rw [dI]; exact q⟩
  · exact op_eq pins s σ H _ _ v u Q I rx ry ⟨rfl, by rw [dS]; exact q⟩
  · exact op_eq pins s σ H _ _ v u Q I rx ry ⟨rfl, by rw [dB]; exact q⟩
  · exact op_eqP hu pins s σ H _ _ v u Q I rx ry q
theorem op_neG {X : Cx} (hu : X.A.units + 64 < cLine) : OpR X (compareOp .NotEq) (rNeG X.K) := fun pins s σ H x y v u Q I rx ry q => by
  unfold rNeG at q
  split at q
  · exact op_ne pins s σ H _ _ v u Q I rx ry ⟨rfl, by rw [dI]; exact q⟩
  · exact op_ne pins s σ H _ _ v u Q I rx ry ⟨rfl, by rw [dS]; exact q⟩
  · exact op_ne pins s σ H _ _ v u Q I rx ry ⟨rfl, by rw [dB]; exact q⟩
  · exact op_neP hu pins s σ H _ _ v u Q I rx ry q
/-- is None -/
def rIsNG : R2 := fun x y H Q => match y with
  | .non => Q (.bl (decide (x = .non))) H
  | _ => False
def rNotNG : R2 := fun x y H Q => match y with
  | .non => Q (.bl (!decide (x = .non))) H
  | _ => False
theorem op_isG {X : Cx} : OpR X (compareOp .Is) rIsNG := op_of op_isN fun x y H Q q => by
  unfold rIsNG at q
  split at q
  · exact ⟨rfl, q⟩
  · exact q.elim
theorem op_isnotG {X : Cx} : OpR X (compareOp .IsNot) rNotNG := op_of op_notN fun x y H Q q => by
  unfold rNotNG at q
  split at q
  · exact ⟨rfl, q⟩
  · exact q.elim
/-! ### tests -/
def kTest (Q : Bool → Hp → Prop) : VK := fun x H' => match x with
  | .bl k => Q k H'
  | _ => False
def tTestG (t : TE) : TT := fun σ H Q => t σ H (kTest Q)
theorem pt_cmpG {X : Cx} {op : CmpOp} {a b : Expr} {ta tb : TE} {pos : Pos} {r : R2} (ho : OpR X (compareOp op) r) (ha : PE X a ta) (hb : PE X b tb) (hm : behindInMarks op b = false) : PT X (.Compare a [op] [b] pos) (tTestG (tOp r ta tb)) := by
  refine ⟨fun pins s σ H Q I hw => ?_⟩
  refine wpAny_isTrue_Compare1 (thn (ha.run pins s σ H _ I hw) fun v s1 ⟨x, H1, I1, r1, q1⟩ => thn (hb.run pins s1 σ H1 _ I1 q1) fun u s2 ⟨y, H2, I2, r2, q2⟩ => thn (ho pins s2 σ H2 x y v u _ I2 r1 r2 q2) fun c s3 ⟨z, H3, I3, r3, q3⟩ => ?_) hm
  cases z with
  | bl k =>
    cases r3
    exact wpAny_truthy_bool ⟨H3, I3, q3⟩
  | _ => exact (show False from q3).elim
/-- a < b < c -/
def kChain (r' : R2) (tc : TE) (σ : L2.St) (y : V) (Q : VK) : VK := fun z H3 => match z with
  | .bl k => if k = true then tc σ H3 fun w' H4 => r' y w' H4 Q else Q (.bl false) H3
  | _ => False
def tChainG (r r' : R2) (ta tb tc : TE) : TE := fun σ H Q => ta σ H fun x H1 => tb σ H1 fun y H2 => r x y H2 (kChain r' tc σ y Q)
end Tc

/-! Further rules; data as values of Lean. -/
namespace Tc
open PySem PySem.Spec PyProof.Rows L2
section
variable {X : Cx} {a b c e : Expr} {ta tb tc te : TE} {pos : Pos}
theorem pe_chainG {op op' : CmpOp} {r r' : R2} (ho : OpR X (compareOp op) r) (ho' : OpR X (compareOp op') r') (ha : PE X a ta) (hb : PE X b tb) (hc : PE X c tc)
    (hm : lastMarks [op, op'] [b, c] = false := by with_unfolding_all rfl) : PE X (.Compare a [op, op'] [b, c] pos) (tChainG r r' ta tb tc) := by
  refine ⟨fun pins s σ H Q I h => ?_⟩
  refine Compare_chain (thn (ha.run pins s σ H _ I h) fun v s1 ⟨x, H1, I1, r1, q1⟩ => chain_link (thn (hb.run pins s1 σ H1 _ I1 q1) fun u s2 ⟨y, H2, I2, r2, q2⟩ =>
    thn (ho pins s2 σ H2 x y v u _ I2 r1 r2 q2) fun d s3 ⟨z, H3, I3, r3, q3⟩ => ?_)) hm
  cases z with
  | bl k =>
    cases r3
    refine wpAny_truthy_bool ?_
    cases k with
    | false => exact ite_ff ⟨.bl false, H3, I3, rfl, q3⟩
    | true => exact ite_tt (chain_last (thn (hc.run pins s3 σ H3 _ I3 q3) fun w' s4 ⟨z', H4, I4, r4, q4⟩ => ho' pins s4 σ H4 y z' u w' Q I4 r2 r4 q4))
  | _ => exact (show False from q3).elim
/-- an expression's truth as a test -/
def kTru (K : PySem.W.Frag) (Q : Bool → Hp → Prop) : VK := fun x H' => match x with
  | .bl k => Q k H'
  | .non => Q false H'
  | .int i => Q (i != 0) H'
  | .str z => z.length ≤ sizeLine ∧ Q ((z.length : Int) != 0) H'
  | x => ∃ k, TruV K x H' k ∧ Q k H'
def tTruG (K : PySem.W.Frag) (t : TE) : TT := fun σ H Q => t σ H (kTru K Q)
theorem pt_tru (ha : PE X a ta) (he : ∀ whole, isTrue a X.env whole = (do let v ← whole; standAt a.pos; holding [v] (truthy v)) := by intro _; rfl) : PT X a (tTruG X.K ta) := by
  refine ⟨fun pins s σ H Q I h => ?_⟩
  exact isTrue_plain (thn (ha.run pins s σ H _ I h) fun v s1 ⟨x, H1, I1, r1, q1⟩ => tru_ok pins s1 σ H1 x v Q I1 r1 (by
    unfold kTru at q1
    split at q1
    · exact ⟨_, rfl, q1⟩
    · exact ⟨_, rfl, q1⟩
    · exact ⟨_, rfl, q1⟩
    · exact ⟨_, ⟨q1.1, rfl⟩, q1.2⟩
    · exact q1)) (he _)
/-- a and b, a or b as values, the first ones truths -/
def kAnd (tb : TE) (σ : L2.St) (Q : VK) : VK := fun x H1 => match x with
  | .bl k => if k = true then tb σ H1 Q else Q (.bl false) H1
  | _ => False
def kOr (tb : TE) (σ : L2.St) (Q : VK) : VK := fun x H1 => match x with
  | .bl k => if k = true then Q (.bl true) H1 else tb σ H1 Q
  | _ => False
def tAndG (ta tb : TE) : TE := fun σ H Q => ta σ H (kAnd tb σ Q)
def tOrG (ta tb : TE) : TE := fun σ H Q => ta σ H (kOr tb σ Q)
variable {rest : List Expr}
theorem pe_andG (ha : PE X a ta) (hb : PE X (.BoolOp .And (b :: rest) pos) tb) : PE X (.BoolOp .And (a :: b :: rest) pos) (tAndG ta tb) := by
  refine ⟨fun pins s σ H Q I h => ?_⟩
  refine BoolOp_and (thn (ha.run pins s σ H _ I h) fun v s1 ⟨x, H1, I1, r1, q1⟩ => ?_)
  cases x with
  | bl k =>
    cases r1
    refine wpAny_truthy_bool ?_
    cases k with
    | true => exact hb.run pins s1 σ H1 Q I1 q1
    | false => exact ⟨.bl false, H1, I1, rfl, q1⟩
  | _ => exact (show False from q1).elim
theorem pe_orG (ha : PE X a ta) (hb : PE X (.BoolOp .Or (b :: rest) pos) tb) : PE X (.BoolOp .Or (a :: b :: rest) pos) (tOrG ta tb) := by
  refine ⟨fun pins s σ H Q I h => ?_⟩
  refine BoolOp_or (thn (ha.run pins s σ H _ I h) fun v s1 ⟨x, H1, I1, r1, q1⟩ => ?_)
  cases x with
  | bl k =>
    cases r1
    refine wpAny_truthy_bool ?_
    cases k with
    | false => exact hb.run pins s1 σ H1 Q I1 q1
    | true => exact ⟨.bl true, H1, I1, rfl, q1⟩
  | _ => exact (show False from q1).elim
def kNot (Q : VK) : VK := fun x H1 => match x with
  | .bl k => Q (.bl (!k)) H1
  | _ => False
def tNotG (ta : TE) : TE := fun σ H Q => ta σ H (kNot Q)
theorem pe_notG (ha : PE X a ta) : PE X (.UnaryOp .Not a pos) (tNotG ta) := by
  refine ⟨fun pins s σ H Q I h => ?_⟩
  refine UnaryOp_ (thn (ha.run pins s σ H _ I h) fun v s1 ⟨x, H1, I1, r1, q1⟩ => ?_)
  cases x with
  | bl k =>
    cases r1
    exact not_of (wpAny_truthy_bool ⟨.bl (!k), H1, I1, rfl, q1⟩)
  | _ => exact (show False from q1).elim
/-! ### subscripts -/
/-- a list or a tuple -/
def Sq (K : PySem.W.Frag) (H : Hp) (p : Addr) (xs : List V) : Prop := SqL K H p xs ∨ SqT K H p xs
def rIxG (K : PySem.W.Frag) : R2 := fun x y H Q => match x, y with
  | .str z, .int i => z.length ≤ sizeLine ∧ ∃ c, atI z.cps.toList i = some c ∧ Q (.str ⟨#[c]⟩) H
  | .ref p, .int i => ∃ xs v, Sq K H p xs ∧ atI xs i = some v ∧ Q v H
  | _, _ => False
theorem ix_G : IxR X (rIxG X.K) := by
  intro value slice pins s σ H x y v u Q I rx ry h hs
  unfold rIxG at h
  split at h
  · obtain ⟨h1, c, h2, q⟩ := h
    exact ix_seq value slice pins s σ H _ _ v u Q I rx ry (.inr (.inr ⟨_, _, c, rfl, rfl, h1, h2, q⟩)) hs
  · obtain ⟨xs, w, h1 | h1, h2, q⟩ := h
    · exact ix_seq value slice pins s σ H _ _ v u Q I rx ry (.inl ⟨_, xs, _, w, rfl, rfl, h1, h2, q⟩) hs
    · exact ix_seq value slice pins s σ H _ _ v u Q I rx ry (.inr (.inl ⟨_, xs, _, w, rfl, rfl, h1, h2, q⟩)) hs
  · exact h.elim
def rLenG (K : PySem.W.Frag) : List V → Hp → VK → Prop := fun xs H Q => match xs with
  | [.str z] => z.length ≤ sizeLine ∧ Q (.int (z.length : Nat)) H
  | [.ref p] => ∃ xs, Sq K H p xs ∧ Q (.int (xs.length : Nat)) H
  | _ => False
theorem call_of {f : Value} {r u : List V → Hp → VK → Prop} (h : CallR X f r) (k : ∀ xs H Q, u xs H Q → r xs H Q) : CallR X f u := fun pins s σ H xs us Q I rs q => h pins s σ H xs us Q I rs (k xs H Q q)
theorem call_lenG : CallR X (.builtin "len") (rLenG X.K) := call_of call_len fun xs H Q q => by
  unfold rLenG at q
  split at q
  · exact ⟨_, _, rfl, ⟨q.1, rfl⟩, q.2⟩
  · obtain ⟨xs, h | h, q⟩ := q
    · exact ⟨_, _, rfl, .inl ⟨xs, h, rfl⟩, q⟩
    · exact ⟨_, _, rfl, .inr ⟨xs, h, rfl⟩, q⟩
  · exact q.elim
end
/-! ### data -/
mutual
/-- v is the datum d: lists stand tracked -/
inductive DV (K : PySem.W.Frag) (H : Hp) : V → PyData → Prop
  | non : DV K H .non .none
  | bl (b : Bool) : DV K H (.bl b) (.bool b)
  | int (i : Int) : DV K H (.int i) (.int i)
  | str (x : Str) : DV K H (.str x) (.str x)
  | lst {a : Addr} {xs : List V} {ds : List PyData} : H a = some (.lst xs) → DVs K H xs ds → DV K H (.ref a) (.list ds)
  | tup {a : Addr} {xs : List V} {ds : List PyData} : SqT K H a xs → DVs K H xs ds → DV K H (.ref a) (.tuple ds)
inductive DVs (K : PySem.W.Frag) (H : Hp) : List V → List PyData → Prop
  | nil : DVs K H [] []
  | cons {v : V} {vs : List V} {d : PyData} {ds : List PyData} : DV K H v d → DVs K H vs ds → DVs K H (v :: vs) (d :: ds)
end
theorem same_tup {K : PySem.W.Frag} {H H' : Hp} {a : Addr} {xs : List V} (e : Same H H') (h : SqT K H a xs) : SqT K H' a xs := by
  rcases h with (h | ⟨o, h⟩) | h
  · exact .inl (.inl (e _ _ h))
  · exact .inl (.inr ⟨o, e _ _ h⟩)
  · exact .inr h
theorem same_upd {H : Hp} {p : Addr} {o : HO} (h : H p = none) : Same H (upd H p o) := fun b x e => by
  rw [upd_ne (ne_of_none e h)]
  exact e
mutual
theorem DV.dp {K : PySem.W.Frag} {H : Hp} : ∀ {v : V} {d : PyData}, DV K H v d → Dp K H v d
  | _, _, .non => .non
  | _, _, .bl b => .bl b
  | _, _, .int i => .int i
  | _, _, .str x => .str x
  | _, _, .lst h t => .lst (SqL.of h) (DVs.dp t)
  | _, _, .tup h t => .tup h (DVs.dp t)
theorem DVs.dp {K : PySem.W.Frag} {H : Hp} : ∀ {v : List V} {d : List PyData}, DVs K H v d → DpAll K H v d
  | _, _, .nil => .nil
  | _, _, .cons h t => .cons (DV.dp h) (DVs.dp t)
end
mutual
theorem DV.same {K : PySem.W.Frag} {H H' : Hp} (e : Same H H') : ∀ {v : V} {d : PyData}, DV K H v d → DV K H' v d
  | _, _, .non => .non
  | _, _, .bl b => .bl b
  | _, _, .int i => .int i
  | _, _, .str x => .str x
  | _, _, .lst h t => .lst (e _ _ h) (DVs.same e t)
  | _, _, .tup h t => .tup (same_tup e h) (DVs.same e t)
theorem DVs.same {K : PySem.W.Frag} {H H' : Hp} (e : Same H H') : ∀ {v : List V} {d : List PyData}, DVs K H v d → DVs K H' v d
  | _, _, .nil => .nil
  | _, _, .cons h t => .cons (DV.same e h) (DVs.same e t)
end
theorem DVs.length {K : PySem.W.Frag} {H : Hp} : ∀ {v : List V} {d : List PyData}, DVs K H v d → v.length = d.length
  | _, _, .nil => rfl
  | _, _, .cons _ t => congrArg (· + 1) (DVs.length t)
theorem DVs.get {K : PySem.W.Frag} {H : Hp} : ∀ {v : List V} {d : List PyData} {i : Nat} {x : V}, DVs K H v d → v[i]? = some x → ∃ y, d[i]? = some y ∧ DV K H x y
  | _, _, _, _, .nil, e => by simp at e
  | _, _, 0, x, .cons (d := d) h t, e => ⟨d, rfl, by cases e; exact h⟩
  | _, _, i + 1, x, .cons h t, e => DVs.get (i := i) t (by simpa using e)
theorem DVs.get' {K : PySem.W.Frag} {H : Hp} : ∀ {v : List V} {d : List PyData} {i : Nat} {y : PyData}, DVs K H v d → d[i]? = some y → ∃ x, v[i]? = some x ∧ DV K H x y
  | _, _, _, _, .nil, e => by simp at e
  | v :: _, _, 0, x, .cons h t, e => ⟨v, rfl, by cases e; exact h⟩
  | _, _, i + 1, x, .cons h t, e => DVs.get' (i := i) t (by simpa using e)
theorem DVs.append {K : PySem.W.Frag} {H : Hp} : ∀ {v w : List V} {d e : List PyData}, DVs K H v d → DVs K H w e → DVs K H (v ++ w) (d ++ e)
  | _, _, _, _, .nil, h => h
  | _, _, _, _, .cons h t, h2 => .cons h (DVs.append t h2)
theorem DVs.take {K : PySem.W.Frag} {H : Hp} : ∀ {v : List V} {d : List PyData} (n : Nat), DVs K H v d → DVs K H (v.take n) (d.take n)
  | _, _, 0, _ => .nil
  | _, _, _ + 1, .nil => .nil
  | _, _, n + 1, .cons h t => .cons h (DVs.take n t)
theorem DVs.drop {K : PySem.W.Frag} {H : Hp} : ∀ {v : List V} {d : List PyData} (n : Nat), DVs K H v d → DVs K H (v.drop n) (d.drop n)
  | _, _, 0, h => h
  | _, _, _ + 1, .nil => .nil
  | _, _, n + 1, .cons h t => DVs.drop n t
theorem DVs.set {K : PySem.W.Frag} {H : Hp} : ∀ {v : List V} {d : List PyData} (n : Nat) {x : V} {y : PyData}, DVs K H v d → DV K H x y → DVs K H (v.set n x) (d.set n y)
  | _, _, _, _, _, .nil, _ => .nil
  | _, _, 0, _, _, .cons h t, q => .cons q t
  | _, _, n + 1, _, _, .cons h t, q => .cons h (DVs.set n t q)
/-- the type's name of a datum -/
def tyD : PyData → String
  | .none => "NoneType"
  | .bool _ => "bool"
  | .int _ => "int"
  | .str _ => "str"
  | .list _ => "list"
  | .tuple _ => "tuple"
  | .dict _ => "dict"
theorem DV.tyx {K : PySem.W.Frag} {H : Hp} : ∀ {v : V} {d : PyData}, DV K H v d → TyX K H v (.type (tyD d))
  | _, _, .non => .base .non
  | _, _, .bl b => .base (.bl b)
  | _, _, .int i => .base (.int i)
  | _, _, .str x => .base (.str x)
  | _, _, .lst h t => .base (.lst h)
  | _, _, .tup h t => by
    rcases h with (h | ⟨o, h⟩) | ⟨o, its, n, h1, h2, _⟩
    · exact .base (.tup h)
    · exact .fTuple h
    · exact .kTuple h1 h2
/-- the kinds that are asked -/
inductive Ty where
  | int | bool | str | tuple | list
def Ty.name : Ty → String
  | .int => "int"
  | .bool => "bool"
  | .str => "str"
  | .tuple => "tuple"
  | .list => "list"
/-- isinstance of a datum -/
def isD : PyData → Ty → Bool
  | .int _, .int => true
  | .bool _, .int => true
  | .bool _, .bool => true
  | .str _, .str => true
  | .tuple _, .tuple => true
  | .list _, .list => true
  | _, _ => false
theorem kitB_N : kitB "NoneType" "int" = some false ∧ kitB "NoneType" "bool" = some false ∧ kitB "NoneType" "str" = some false ∧ kitB "NoneType" "tuple" = some false ∧ kitB "NoneType" "list" = some false ∧
    kitB "bool" "int" = some true ∧ kitB "bool" "bool" = some true ∧ kitB "bool" "str" = some false ∧ kitB "bool" "tuple" = some false ∧ kitB "bool" "list" = some false ∧
    kitB "int" "int" = some true ∧ kitB "int" "bool" = some false ∧ kitB "int" "str" = some false ∧ kitB "int" "tuple" = some false ∧ kitB "int" "list" = some false ∧
    kitB "str" "int" = some false ∧ kitB "str" "bool" = some false ∧ kitB "str" "str" = some true ∧ kitB "str" "tuple" = some false ∧ kitB "str" "list" = some false ∧
    kitB "tuple" "int" = some false ∧ kitB "tuple" "bool" = some false ∧ kitB "tuple" "str" = some false ∧ kitB "tuple" "tuple" = some true ∧ kitB "tuple" "list" = some false ∧
    kitB "list" "int" = some false ∧ kitB "list" "bool" = some false ∧ kitB "list" "str" = some false ∧ kitB "list" "tuple" = some false ∧ kitB "list" "list" = some true ∧
    kitB "dict" "int" = some false ∧ kitB "dict" "bool" = some false ∧ kitB "dict" "str" = some false ∧ kitB "dict" "tuple" = some false ∧ kitB "dict" "list" = some false := by decide +kernel
theorem kitB_D (d : PyData) (t : Ty) : kitB (tyD d) t.name = some (isD d t) := by
  obtain ⟨a1, a2, a3, a4, a5, b1, b2, b3, b4, b5, c1, c2, c3, c4, c5, d1, d2, d3, d4, d5, e1, e2, e3, e4, e5, f1, f2, f3, f4, f5, g1, g2, g3, g4, g5⟩ := kitB_N
  cases d <;> cases t <;> assumption
def rIsiD (K : PySem.W.Frag) : List V → Hp → VK → Prop := fun xs H Q => match xs with
  | [x, .ty T] => ∃ d t, DV K H x d ∧ T = Ty.name t ∧ Q (.bl (isD d t)) H
  | [x, .ref tp] => ∃ d t u, DV K H x d ∧ H tp = some (.tup [.ty (Ty.name t), .ty (Ty.name u)]) ∧ Q (.bl (isD d t || isD d u)) H
  | _ => False
theorem call_isiD {X : Cx} : CallR X (.builtin "isinstance") (rIsiD X.K) := by
  intro pins s σ H xs us Q I rs q
  unfold rIsiD at q
  split at q
  · obtain ⟨d, t, h1, rfl, q⟩ := q
    exact call_isi pins s σ H _ us Q I rs ⟨_, _, _, _, _, rfl, .ty _, h1.tyx, kit_ty (kitB_D d t), q⟩
  · obtain ⟨d, t, u, h1, h2, q⟩ := q
    refine call_isiT pins s σ H _ us Q I rs ⟨_, _, _, _, _, _, rfl, h2, .cons (.ty _) (.cons (.ty _) .nil), h1.tyx, ?_, q⟩
    refine kitAny_cons (kit_ty (kitB_D d t)) (fun e => ?_) (fun e => by rw [e]; rfl)
    rw [e, Bool.false_or]
    refine kitAny_cons (kit_ty (kitB_D d u)) (fun e => ?_) (fun e => e)
    rw [e]
    exact kitAny_nil
  · exact q.elim
theorem DVs.two {K : PySem.W.Frag} {H : Hp} {v : List V} {d : List PyData} (h : DVs K H v d) (n : v.length = 2) : ∃ x y a b, v = [x, y] ∧ d = [a, b] ∧ DV K H x a ∧ DV K H y b := by
  match v, d, h, n with
  | [x, y], [a, b], .cons h1 (.cons h2 .nil), _ => exact ⟨x, y, a, b, rfl, rfl, h1, h2⟩
end Tc

/-! set(list of ints), sorted(set), at any size below 4,000. -/
namespace Tc
open PySem PySem.Spec PyProof.Rows L2
section
variable {P : Program} {w : World} {A : Around} {E : Value → Shared → Prop} {s : Shared}
/-- the object of a fresh set -/
abbrev set0 (w : World) : Obj := { cls := .type "set", dict := none, data := .set #[] 0 (.fresh 0 0 (!w.params.followText "set-order")) }
/-- what set.__init__ leaves of the new set at z -/
def Filled (w : World) (z : Addr) (ms : List Int) (g g' : Heap) : Prop := ∃ c, c ≤ ms.length ∧ SetR w g' z (fun j => decide (j ∈ ms)) c ∧ ∀ b o, b ≠ z → g.get? b = some o → g'.get? b = some o
set_option maxHeartbeats 3200000 in
theorem set_fill {q z : Addr} {vals : Array Value} {ms : List Int} {R : Result → Shared → Prop} (nh : A.handled = none) (hz : s.heap.get? z = some (set0 w)) (hq : s.heap.IsList q vals) (iv : IntsAre vals.toList ms) (few : ms.length + 1 < scanBound)
    (done : ∀ (g' : Heap) (tk : Nat), Filled w z ms s.heap g' → R (.ok (.ret .none)) { s with heap := g', toks := tk }) :
    codeAny (model P w) A (.call (.builtin "set.__init__") ⟨[.ref z, .ref q], []⟩) R s := by
  have ty : s.TypeIs (.ref z) "set" := ⟨_, hz, rfl⟩
  refine codeAny_mono (codeAny_call_builtin (R := fun r t => r = .ok (.ret .none) ∧ ∃ g' tk, t = { s with heap := g', toks := tk } ∧ Filled w z ms s.heap g') (PySem.F.called_set.init.plain) PySem.F.entry_set_init (check_set_init_1 ty ?_)) fun r t ⟨e1, g', tk, e2, f⟩ => by
    subst e1; subst e2; exact done g' tk f
  have len : vals.size = ms.length := by simpa using IntsAre.length iv
  obtain ⟨⟨k1, k2, k3, k4⟩, hk, c1, m, c2⟩ := hq
  dsimp only at c1 c2
  subst c1; subst c2
  have il : s.heap.IsList q vals := ⟨_, hk, rfl, m, rfl⟩
  have n1 := PySem.F.sub_list_set
  have n2 := PySem.F.sub_list_frozenset
  have n3 : (Value.type "list" == Value.type "dict") = false := by decide
  unfold Builtin.«set.__init__» noKeywords Builtin.Frozenset.updateFrom
  generalize hit : pyIter = it
  wp_walk
  subst hit
  refine wpAny_pyIter_list il ?_
  refine wpAny_bind (wpAny_runValue ?_)
  have qlt : q < s.heap.objs.size := Heap.lt_size hk
  have zlt : z < s.heap.objs.size := Heap.lt_size hz
  have zq : z ≠ q := fun e => by
    rw [e, hk] at hz
    exact absurd (congrArg Obj.cls (Option.some.inj hz)) (show ¬ (Value.type "list" = Value.type "set") by decide)
  have nh3 : A.in1.in1.handled = none := by simp [nh]
  have vs : ∀ (i : Nat) (v : Value), vals[i]? = some v → ∃ k t, ms[i]? = some k ∧ v = .int k t := fun i v e => by
    have lt : i < ms.length := by rw [← len]; exact (Array.getElem?_eq_some_iff.mp e).1
    obtain ⟨t, e2⟩ := PyProof.Rows.IntsAre.int_at iv i v (by rw [Array.getElem?_toList]; exact e)
    exact ⟨ms[i], t, List.getElem?_eq_getElem lt, by rw [e2, List.getD_eq_getElem?_getD, List.getElem?_eq_getElem lt]; rfl⟩
  refine set_update_ints ((Walks.list nh3 _ q (Nat.ne_of_lt qlt) vals).toS) z (by simp only [List.mem_cons, List.not_mem_nil, or_false, not_or]; exact ⟨Nat.ne_of_lt zlt, zq⟩) ms len few vs _ 0 _ rfl (Nat.zero_le _)
    ⟨⟨_, Heap.get?_push_size _ rfl, rfl, rfl⟩, il.push _⟩ ⟨0, Nat.le_refl 0, setR_new_at (Heap.get?_push_of_some _ hz)⟩ ?_
  rintro ⟨g', ge, dr, tk, os⟩ c mv cle R'
  have e1 : ge = s.gens := mv.gens
  have e2 : dr = s.drawn := mv.drawn
  have e3 : os = s.os := mv.os
  subst e1; subst e2; subst e3
  show wpAny _ _ _ _ _ _
  refine wpAny_pure ?_
  show wpAny _ _ (ret Value.none) _ _ _
  refine wpAny_pure ⟨rfl, g', tk, rfl, c, by omega, R', fun b o nb e => mv.heap b o ?_ (Heap.get?_push_of_some _ e)⟩
  simp only [List.mem_cons, List.not_mem_nil, or_false, not_or]
  exact ⟨nb, Nat.ne_of_lt (Heap.lt_size e)⟩
set_option maxHeartbeats 3200000 in
theorem call_set_lst {q : Addr} {vals : Array Value} {ms : List Int} {Q : Value → Shared → Prop} (nh : A.handled = none) (hq : s.heap.IsList q vals) (iv : IntsAre vals.toList ms) (few : ms.length + 1 < scanBound)
    (done : ∀ (g' : Heap) (tk c : Nat), c ≤ ms.length → SetR w g' s.heap.objs.size (fun j => decide (j ∈ ms)) c → (∀ b o, s.heap.get? b = some o → g'.get? b = some o) → Q (.ref s.heap.objs.size) { s with heap := g', toks := tk }) :
    wpAny (model P w) A (call (.type "set") [.ref q]) Q E s := by
  obtain ⟨c, tl, m1⟩ := PySem.F.called_set.mro
  have m2 := PySem.F.called_set.made
  have m3 := PySem.F.called_set.sub
  have m4 := PySem.F.called_set.notType
  have m5 := PySem.F.called_set.canCreate
  have m6 := PySem.F.typeCall_set_1 (.ref q)
  refine wpAny_call (codeAny_of_tree ?_)
  show wpAny _ _ (callAny (.type "set") _) _ _ _
  refine wpAny_pure ⟨Code.quiet_builtin _ (by decide +kernel), codeAny_builtin PySem.F.entry_type_call ?_⟩
  rw [Around.under_plain (weight_type_call_type "set" [.ref q] []) rfl]
  repeat (any_goals (first | assumption | wp_step))
  refine codeAny_mono (code_set_led1 (.ref q) (E := E) (Q₁ := fun obj t => obj = .ref s.heap.objs.size ∧ t = { s with heap := s.heap.push (set0 w) }) ⟨rfl, rfl⟩) fun r t hr => ?_
  match r, hr with
  | .ok (.ret obj), hr =>
    obtain ⟨rfl, rfl⟩ := hr
    have hz : (s.heap.push (set0 w)).get? s.heap.objs.size = some (set0 w) := Heap.get?_push_size _ rfl
    have ty : Shared.TypeIs { s with heap := s.heap.push (set0 w) } (.ref s.heap.objs.size) "set" := ⟨_, hz, rfl⟩
    have b1 := PySem.F.called_set.init.lookup
    have b2 := PySem.F.called_set.init.bind (.ref s.heap.objs.size)
    repeat (any_goals (first | assumption | wp_step))
    refine codeAny_mono (set_fill (s := { s with heap := s.heap.push (set0 w) }) (R := wants (fun r t => r = .none ∧ ∃ g' tk, t = { s with heap := g', toks := tk } ∧ Filled w s.heap.objs.size ms (s.heap.push (set0 w)) g') E)
      (by simp [nh]) hz (hq.push _) iv few fun g' tk f => ⟨rfl, g', tk, rfl, f⟩) fun r t hr => ?_
    match r, hr with
    | .ok (.ret v), hr =>
      obtain ⟨rfl, g', tk, rfl, c', cle, R', k⟩ := hr
      repeat (any_goals (first | assumption | wp_step))
      exact done g' tk c' cle R' fun b o e => k b o (Nat.ne_of_lt (Heap.lt_size e)) (Heap.get?_push_of_some _ e)
    | .error e, hr => exact hr
    | .ok .next, hr => exact hr.elim
    | .ok .brk, hr => exact hr.elim
    | .ok .cont, hr => exact hr.elim
  | .error e, hr => exact hr
  | .ok .next, hr => exact hr.elim
  | .ok .brk, hr => exact hr.elim
  | .ok .cont, hr => exact hr.elim
/-- sorted(a set), of any size -/
theorem sorted_setW {a : Addr} {S : Int → Bool} {n : Nat} {Q : Value → Shared → Prop} (R : SetR w s.heap a S n) (nh : A.handled = none)
    (done : ∀ t p (out : Array Value) (c : Nat) (ks : List Int), (∀ b o, s.heap.get? b = some o → t.heap.get? b = some o) → t.gens = s.gens → t.os = s.os → s.heap.objs.size ≤ p →
      t.heap.get? p = some (seqObj "list" out c) → IntsAre out.toList ks → ks.Pairwise (· < ·) → (∀ k, k ∈ ks ↔ S k = true) → ks.length = n ∧ ks.length ≤ scanBound → Q (.ref p) t) :
    wpAny (model P w) A (call (.builtin "sorted") [.ref a]) Q E s := by
  obtain ⟨o, es, ep, t, ho, hx, hd, g, nd, hm, hb, hf, hn, hr, hl⟩ := R
  refine Calls.call_function_entry kind_sorted plain_sorted entry_sorted (args_sorted1 _) ?_
  unfold Builtin.«sorted»
  refine wpAny_bind (m := checkCount "sorted" 1 1 _) (wpAny_pure ?_)
  refine wpAny_bind (collect_set (A := A.in1) nh ⟨o, ho, hx.1, hd⟩ hf hb hr hl fun s1 vs k1 hz g1 o1 pm => ?_)
  have size : es.size < scanBound := hb
  have vlen : vs.length = es.size := by rw [pm.length_eq, List.length_map, Array.length_toList]
  have line : vs.length ≤ sizeLine := by rw [vlen, sizeLine_eq]; unfold scanBound at size; omega
  have iv : IntsAre vs (vs.map Builtin.Re.reRawOf) := ints_of vs fun v hv => by
    obtain ⟨e, he, q⟩ := List.mem_map.mp (pm.mem_iff.mp hv)
    obtain ⟨k, tk, h1, _⟩ := g e he
    exact ⟨k, tk, q.symm.trans h1⟩
  have pk : (vs.map Builtin.Re.reRawOf).Perm (es.toList.map keyOf) := by
    have q := pm.map Builtin.Re.reRawOf
    rw [List.map_map] at q
    exact q
  refine wpAny_bind (wpAny_newList ?_ line)
  have ho1 : (s1.heap.push (seqObj "list" vs.toArray 0)).get? s1.heap.objs.size = some (seqObj "list" vs.toArray 0) := Heap.get?_push_size _ rfl
  refine wpAny_bind (wpAny_holding (wpAny_call_entry slot_list_sort ⟨_, ho1, rfl⟩ entry_list_sort (SrtO.list_sort_ord SrtO.swo_int ho1 line (fun h2 => SrtO.ints_sortable iv h2) fun out h1 h2 => ⟨_, rfl, ?_⟩) (args_list_sort _)))
  obtain ⟨a1, a2, a3⟩ := SrtO.ints_out iv h1 h2
  obtain ⟨c, hc⟩ := sortedHeap_at (vs := vs) (out := out.toArray) ho1
  have pn := a2.trans pk
  refine wpAny_pure ⟨_, rfl, done _ s1.heap.objs.size out.toArray c (out.map SrtO.iv) (fun b u e => ?_) g1 o1 hz hc a1 (lt_of_le_nodup _ a3 (pn.nodup_iff.mpr nd)) (fun k => by rw [pn.mem_iff, ← hm k]) ?_⟩
  · have q := k1 b u e
    have lt := Heap.lt_size q
    show (sortedHeap (s1.heap.push (seqObj "list" vs.toArray 0)) s1.heap.objs.size vs out.toArray).get? b = some u
    rw [sortedHeap_old (Nat.ne_of_lt lt) (by rw [size_push']; exact Nat.lt_succ_of_lt lt)]
    exact Heap.get?_push_of_some _ q
  · rw [pn.length_eq, List.length_map, Array.length_toList]
    exact ⟨hn, Nat.le_of_lt size⟩
end
section
variable {X : Cx}
/-- set(a list of ints) -/
def rSetG (K : PySem.W.Frag) (w : World) : List V → Hp → VK → Prop := fun xs H Q => ∃ (l : Addr) (ms : List Int), xs = [.ref l] ∧ SqL K H l (ms.map V.int) ∧ ms.length ≤ 4000 ∧ ∀ p c, c ≤ ms.length → H p = none → Q (.ref p) (upd H p (SetO w p (fun j => decide (j ∈ ms)) c))
theorem call_setG (hc : X.calm = true) : CallR X (.type "set") (rSetG X.K X.w) := by
  intro pins s σ H xs us Q I r h
  obtain ⟨l, ms, rfl, hl, few, q⟩ := h
  rw [Vals.ref1 r]
  obtain ⟨its, rv, pl, hz⟩ := I.list hl
  have n := I.hok.fresh (Nat.le_refl _)
  exact call_set_lst (I.ok.hd hc) pl.isList rv.ints (by unfold scanBound; omega) fun g' tk c cle R k =>
    ⟨.ref s.heap.objs.size, upd H s.heap.objs.size (SetO X.w s.heap.objs.size (fun j => decide (j ∈ ms)) c), I.laid (t' := tk) k (Nat.le_refl _) (setO_new R), rfl, q _ c cle n⟩
/-- sorted(a set of ints) -/
def rSortSet (w : World) : List V → Hp → VK → Prop := fun vs H Q => ∃ (a : Addr) (S : Int → Bool) (n : Nat), vs = [V.ref a] ∧ H a = some (SetO w a S n) ∧
  ∀ (ks : List Int) (p : Addr), ks.Pairwise (· < ·) → (∀ k : Int, k ∈ ks ↔ S k = true) → ks.length = n → H p = none → Q (.ref p) (upd H p (.lst (ks.map V.int)))
theorem call_sortSet (hc : X.calm = true) : CallR X (.builtin "sorted") (rSortSet X.w) := by
  intro pins s σ H vs us Q I r h
  obtain ⟨a, S, n, rfl, ha, q⟩ := h
  have R := setO_get I ha
  rw [Vals.ref1 r]
  refine sorted_setW R (I.ok.hd hc) fun s' p out c ks k g o hp hg hi hs hm hl => ?_
  have line : (ks.map V.int).length ≤ sizeLine := by rw [List.length_map, sizeLine_eq]; have hl := hl.2; unfold scanBound at hl; omega
  have n := I.hok.fresh hp
  have J : Inv X pins σ (upd H p (.lst (ks.map V.int))) { s with heap := s'.heap, gens := s'.gens, drawn := s'.drawn, toks := s'.toks } :=
    I.call (ch := []) (Un.laid k hp n) (I.hok.laid k hp ⟨line, out.toList, c, vals_of_ints hi, hg⟩) (by rw [g]; exact I.bare) (fun _ z => nomatch z)
  have e : s' = { s with heap := s'.heap, gens := s'.gens, drawn := s'.drawn, toks := s'.toks } := by
    cases s'; cases s; cases o; rfl
  rw [e]
  exact ⟨.ref p, _, J, rfl, q ks p hs hm hl.1 n⟩
/-- sorted: of a list of ints, of a set of ints -/
theorem call_or {f : Value} {r u : List V → Hp → VK → Prop} (h : CallR X f r) (h' : CallR X f u) : CallR X f (fun xs H Q => r xs H Q ∨ u xs H Q) := fun pins s σ H xs us Q I rs q =>
  q.elim (h pins s σ H xs us Q I rs) (h' pins s σ H xs us Q I rs)
theorem call_sortedG (hc : X.calm = true) : CallR X (.builtin "sorted") (fun xs H Q => rSortedI X.K xs H Q ∨ rSortSet X.w xs H Q) := call_or cr_sortedI (call_sortSet hc)
end
end Tc

namespace Tc
open PySem PySem.Spec PyProof.Rows L2
/-! ### the built-ins' names -/
theorem boot_len : bootBuiltins "len" = some (.builtin "len") := by decide +kernel
theorem boot_abs : bootBuiltins "abs" = some (.builtin "abs") := by decide +kernel
theorem boot_min : bootBuiltins "min" = some (.builtin "min") := by decide +kernel
theorem boot_max : bootBuiltins "max" = some (.builtin "max") := by decide +kernel
theorem boot_all : bootBuiltins "all" = some (.builtin "all") := by decide +kernel
theorem boot_any : bootBuiltins "any" = some (.builtin "any") := by decide +kernel
theorem boot_sorted : bootBuiltins "sorted" = some (.builtin "sorted") := by decide +kernel
theorem boot_isinstance : bootBuiltins "isinstance" = some (.builtin "isinstance") := by decide +kernel
theorem boot_int : bootBuiltins "int" = some (.type "int") := by decide +kernel
theorem boot_bool : bootBuiltins "bool" = some (.type "bool") := by decide +kernel
theorem boot_str : bootBuiltins "str" = some (.type "str") := by decide +kernel
theorem boot_tuple : bootBuiltins "tuple" = some (.type "tuple") := by decide +kernel
theorem boot_list : bootBuiltins "list" = some (.type "list") := by decide +kernel
theorem boot_dict : bootBuiltins "dict" = some (.type "dict") := by decide +kernel
theorem boot_set : bootBuiltins "set" = some (.type "set") := by decide +kernel
section
variable {X : Cx}
/-! ### slices -/
/-- x[lo:hi] of a text, a list, a tuple (the whole of a tuple is the tuple itself) -/
def rSlG (K : PySem.W.Frag) : V → Option Int → Option Int → Hp → VK → Prop := fun x lo hi H Q => match x with
  | .str z => z.length ≤ sizeLine ∧ Q (.str (cutS z lo hi)) H
  | .ref p => (∃ xs, SqL K H p xs ∧ ∀ q, H q = none → Q (.ref q) (upd H q (.lst (cutV xs lo hi)))) ∨
      ∃ xs, SqT K H p xs ∧ (cutV xs lo hi = xs → Q (.ref p) H) ∧ ∀ q, H q = none → Q (.ref q) (upd H q (.tup (cutV xs lo hi)))
  | _ => False
theorem cut_whole {xs : List V} {lo hi : Option Int} (h : HT.sIx xs.length 0 lo = 0 ∧ HT.sIx xs.length xs.length hi = xs.length) : cutV xs lo hi = xs := by
  unfold cutV
  rw [h.1, h.2]
  simp
theorem sl_G : SlR X (rSlG X.K) := by
  intro pins s σ H x v vl vu lo hi sl Q I rx hs pl pu q
  unfold rSlG at q
  split at q
  · exact sl_str pins s σ H _ v vl vu lo hi sl Q I rx hs pl pu ⟨_, rfl, q⟩
  · rcases q with ⟨xs, h, q⟩ | ⟨xs, h, q1, q2⟩
    · exact sl_list pins s σ H _ v vl vu lo hi sl Q I rx hs pl pu ⟨_, xs, rfl, h, q⟩
    · exact sl_tupA pins s σ H _ v vl vu lo hi sl Q I rx hs pl pu ⟨_, xs, rfl, h, fun w => q1 (cut_whole w), fun _ => q2⟩
  · exact q.elim
/-! ### calls -/
def rAbsG : List V → Hp → VK → Prop := fun xs H Q => match xs with
  | [.int i] => Q (.int (if i < 0 then -i else i)) H
  | _ => False
theorem call_absG : CallR X (.builtin "abs") rAbsG := call_of call_abs fun xs H Q q => by
  unfold rAbsG at q
  split at q
  · exact ⟨_, rfl, q⟩
  · exact q.elim
def rMinG : List V → Hp → VK → Prop := fun xs H Q => match xs with
  | [.int i, .int j] => Q (.int (if j < i then j else i)) H
  | _ => False
theorem call_min2G (hc : X.calm = true) : CallR X (.builtin "min") rMinG := call_of (call_min2 hc) fun xs H Q q => by
  unfold rMinG at q
  split at q
  · exact ⟨_, _, rfl, q⟩
  · exact q.elim
def rMaxG : List V → Hp → VK → Prop := fun xs H Q => match xs with
  | [.int i, .int j] => Q (.int (if j > i then j else i)) H
  | _ => False
theorem call_max2G (hc : X.calm = true) : CallR X (.builtin "max") rMaxG := call_of (call_max2 hc) fun xs H Q q => by
  unfold rMaxG at q
  split at q
  · exact ⟨_, _, rfl, q⟩
  · exact q.elim
def rIntG : List V → Hp → VK → Prop := fun xs H Q => match xs with
  | [.int i] => Q (.int i) H
  | [.bl k] => Q (.int (if k then 1 else 0)) H
  | _ => False
theorem call_intG : CallR X (.type "int") rIntG := call_of call_int1 fun xs H Q q => by
  unfold rIntG at q
  split at q
  · exact .inl ⟨_, rfl, q⟩
  · exact .inr ⟨_, rfl, q⟩
  · exact q.elim
def rStrG : List V → Hp → VK → Prop := fun xs H Q => match xs with
  | [.int i] => i.natAbs.log2 < 1920 ∧ Q (.str (toString i)) H
  | [.bl i] => Q (.str (if i then "True" else "False")) H
  | _ => False
theorem call_strG : CallR X (.type "str") rStrG := fun pins s σ H xs us Q I rs q => by
  unfold rStrG at q
  split at q
  · exact call_str_int pins s σ H _ us Q I rs ⟨_, rfl, q⟩
  · obtain ⟨u, rfl, ru⟩ := vals1 rs
    cases ru
    exact P.str_of_bool ⟨.str _, H, I.tok _, ⟨_, rfl⟩, q⟩
  · exact q.elim
/-- tuple(a list or tuple), list(a list or tuple) -/
def rTupleG (K : PySem.W.Frag) : List V → Hp → VK → Prop := fun xs H Q => match xs with
  | [.ref p] => (∃ ys, SqL K H p ys ∧ ∀ l, H l = none → Q (.ref l) (upd H l (.tup ys))) ∨ ∃ ys, SqT K H p ys ∧ Q (.ref p) H
  | _ => False
theorem call_tupleG : CallR X (.type "tuple") (rTupleG X.K) := call_of call_tuple_of fun xs H Q q => by
  unfold rTupleG at q
  split at q
  · rcases q with ⟨ys, h, q⟩ | ⟨ys, h, q⟩
    · exact ⟨_, ys, rfl, .inl ⟨h, q⟩⟩
    · exact ⟨_, ys, rfl, .inr ⟨h, q⟩⟩
  · exact q.elim
def rListG (K : PySem.W.Frag) : List V → Hp → VK → Prop := fun xs H Q => match xs with
  | [.ref p] => ∃ ys, Sq K H p ys ∧ ∀ l, H l = none → Q (.ref l) (upd H l (.lst ys))
  | _ => False
theorem call_listG : CallR X (.type "list") (rListG X.K) := call_of call_list_of fun xs H Q q => by
  unfold rListG at q
  split at q
  · obtain ⟨ys, h, q⟩ := q
    exact ⟨_, ys, rfl, h, q⟩
  · exact q.elim
/-! ### what is walked -/
theorem pi_or {tg it : Expr} {a b : TI} (h : PI X tg it a) (h' : PI X tg it b) : PI X tg it (fun σ H R => a σ H R ∨ b σ H R) :=
  ⟨fun pins s σ H R I q => q.elim (h.run pins s σ H R I) (h'.run pins s σ H R I)⟩
end
end Tc

namespace Tc
open PySem PySem.Spec PyProof.Rows L2
section
variable {X : Cx} {tg l : Expr} {tl : TE}
/-- G speaks of the object at a alone -/
def At (H1 : Hp) (a : Addr) (G : Hp → Prop) : Prop := ∀ H, (∀ o, H1 a = some o → H a = some o) → G H
/-- for x in a list or a tuple -/
def kSq (K : PySem.W.Frag) (R : It → Hp → Prop) : VK := fun x H1 => match x with
  | .ref a => ∃ xs, Sq K H1 a xs ∧ ∀ J G, Walk J xs.length G (YAt xs) → At H1 a G → R J H1
  | _ => False
def iSqG (K : PySem.W.Frag) (tl : TE) : TI := fun σ H R => tl σ H (kSq K R)
theorem rd_at {H H' : Hp} {a : Addr} {u : HO} (k : ∀ o, H a = some o → H' a = some o) (h : Rd H a u) : Rd H' a u := by
  rcases h with h | ⟨o, h⟩
  · exact .inl (k _ h)
  · exact .inr ⟨o, k _ h⟩
theorem sqL_at {K : PySem.W.Frag} {H H' : Hp} {a : Addr} {xs : List V} (k : ∀ o, H a = some o → H' a = some o) (h : SqL K H a xs) : SqL K H' a xs := h.elim (fun h => .inl (rd_at k h)) .inr
theorem sqT_at {K : PySem.W.Frag} {H H' : Hp} {a : Addr} {xs : List V} (k : ∀ o, H a = some o → H' a = some o) (h : SqT K H a xs) : SqT K H' a xs := h.elim (fun h => .inl (rd_at k h)) .inr
theorem pi_G (hl : PE X l tl) : PI X tg l (iSqG X.K tl) := by
  refine ⟨fun pins s σ H R I h => ?_⟩
  refine thn (hl.run pins s σ H _ I h) fun v s1 ⟨x, H1, I1, r1, q1⟩ => ?_
  cases x with
  | ref a =>
    obtain ⟨xs, hq | hq, q⟩ := q1
    · cases r1
      obtain ⟨its, rv, p, hz⟩ := I1.list hq
      refine wpAny_pyIter_list p.isList ?_
      refine ⟨s1.heap.objs.size, [s1.heap.objs.size], _, _, H1, rfl, I1.kept (t' := s1.toks) fun b o e => Heap.get?_push_of_some _ e, turn_list a _, ⟨_, Heap.get?_push_size _ rfl, rfl, rfl⟩, fun b hb => ?_, q _ _ walk_list fun H k => sqL_at k hq⟩
      have e : b = s1.heap.objs.size := by simpa using hb
      subst e
      exact I1.fpOk (Nat.le_refl _) (I1.hok.fresh (Nat.le_refl _))
    · cases r1
      obtain ⟨its, rv, p, hz⟩ := I1.tuple hq
      refine wpAny_pyIter_tuple (show s1.heap.IsTuple a its.toArray from p) ?_
      refine ⟨s1.heap.objs.size, [s1.heap.objs.size], _, _, H1, rfl, I1.kept (t' := s1.toks) fun b o e => Heap.get?_push_of_some _ e, turn_tuple a _, ⟨_, Heap.get?_push_size _ rfl, rfl, rfl⟩, fun b hb => ?_, q _ _ walk_tup fun H k => sqT_at k hq⟩
      have e : b = s1.heap.objs.size := by simpa using hb
      subst e
      exact I1.fpOk (Nat.le_refl _) (I1.hok.fresh (Nat.le_refl _))
  | _ => exact (show False from q1).elim
/-- the answer of a comprehension whose element is a function of the item (z: the item, and what is known of it), over a list or tuple; one name at slot i -/
theorem lc_map {α : Type} {K : PySem.W.Frag} {H1 : Hp} {a : Addr} (zs : List (V × α)) {te : TE} {vs : List Nat} {σ : L2.St} {Q : Addr → Hp → Prop} {i : Nat} (f : V × α → V) (hs : Sq K H1 a (zs.map (·.1))) (few : zs.length < sizeLine)
    (hw : ∀ x, wipe ((wipe σ vs).set i (some x)) vs = wipe σ vs)
    (he : ∀ (z : V × α) (H : Hp), z ∈ zs → Same H1 H → ∀ Qe : VK, Qe (f z) H → te ((wipe σ vs).set i (some z.1)) H Qe)
    (q : ∀ D, H1 D = none → Q D (upd H1 D (.lst (zs.map f)))) :
    ∃ ys, Sq K H1 a ys ∧ ∀ J G, Walk J ys.length G (YAt ys) → At H1 a G → ∀ D, H1 D = none → ∃ W : Nat → Nat → Hp → Prop, (∃ m, W 0 m (upd H1 D (.lst []))) ∧ ∀ i' m H, W i' m H →
      (J.stop i' H ∧ Q D H) ∨ (J.go i' H ∧ ∃ Nx : Hp → Prop, (∀ H', Nx H' → ∃ m', m' < m ∧ W (i' + 1) m' H') ∧ ∀ x H', J.yld i' H x H' → gName i x (wipe σ vs) H' fun σ2 H2 => wipe σ2 vs = wipe σ vs ∧ tYes σ2 H2 fun b H3 =>
        if b = true then te σ2 H3 fun y H4 => ∃ acc, H4 D = some (.lst acc) ∧ acc.length < sizeLine ∧ Nx (upd H4 D (.lst (acc ++ [y]))) else Nx H3) := by
  refine ⟨_, hs, fun J G w hG D hD => ?_⟩
  rw [List.length_map] at w
  refine lc_it w (fun k H => H = upd H1 D (.lst ((zs.take k).map f))) (by simp) (fun k H hk e => hG H fun o ho => ?_) (fun k x H H' hk e y => ?_) (fun H e => ?_)
  · rw [e]; exact same_upd hD _ _ ho
  · obtain ⟨rfl, hx⟩ := y
    subst e
    rw [List.getElem?_map, List.getElem?_eq_getElem hk] at hx
    obtain rfl := Option.some.inj hx
    refine ⟨hw _, ?_⟩
    show te _ _ _
    refine he zs[k] _ (List.getElem_mem hk) (same_upd hD) _ ⟨_, upd_same, ?_, ?_⟩
    · rw [List.length_map, List.length_take]; omega
    · rw [upd_upd, List.take_add_one, List.getElem?_eq_getElem hk, List.map_append]; rfl
  · rw [e, List.take_length]; exact q D hD
/-- .. with a test of the item -/
theorem lc_filter {α : Type} {K : PySem.W.Frag} {H1 : Hp} {a : Addr} (zs : List (V × α)) {tt : TT} {te : TE} {vs : List Nat} {σ : L2.St} {Q : Addr → Hp → Prop} {i : Nat} (p : V × α → Bool) (f : V × α → V) (hs : Sq K H1 a (zs.map (·.1))) (few : zs.length < sizeLine)
    (hw : ∀ x, wipe ((wipe σ vs).set i (some x)) vs = wipe σ vs)
    (ht : ∀ (z : V × α) (H : Hp), z ∈ zs → Same H1 H → ∀ Qe : Bool → Hp → Prop, Qe (p z) H → tt ((wipe σ vs).set i (some z.1)) H Qe)
    (he : ∀ (z : V × α) (H : Hp), z ∈ zs → Same H1 H → p z = true → ∀ Qe : VK, Qe (f z) H → te ((wipe σ vs).set i (some z.1)) H Qe)
    (q : ∀ D, H1 D = none → Q D (upd H1 D (.lst ((zs.filter p).map f)))) :
    ∃ ys, Sq K H1 a ys ∧ ∀ J G, Walk J ys.length G (YAt ys) → At H1 a G → ∀ D, H1 D = none → ∃ W : Nat → Nat → Hp → Prop, (∃ m, W 0 m (upd H1 D (.lst []))) ∧ ∀ i' m H, W i' m H →
      (J.stop i' H ∧ Q D H) ∨ (J.go i' H ∧ ∃ Nx : Hp → Prop, (∀ H', Nx H' → ∃ m', m' < m ∧ W (i' + 1) m' H') ∧ ∀ x H', J.yld i' H x H' → gName i x (wipe σ vs) H' fun σ2 H2 => wipe σ2 vs = wipe σ vs ∧ tt σ2 H2 fun b H3 =>
        if b = true then te σ2 H3 fun y H4 => ∃ acc, H4 D = some (.lst acc) ∧ acc.length < sizeLine ∧ Nx (upd H4 D (.lst (acc ++ [y]))) else Nx H3) := by
  refine ⟨_, hs, fun J G w hG D hD => ?_⟩
  rw [List.length_map] at w
  refine lc_it w (fun k H => H = upd H1 D (.lst (((zs.take k).filter p).map f))) (by simp) (fun k H hk e => hG H fun o ho => ?_) (fun k x H H' hk e y => ?_) (fun H e => ?_)
  · rw [e]; exact same_upd hD _ _ ho
  · obtain ⟨rfl, hx⟩ := y
    subst e
    rw [List.getElem?_map, List.getElem?_eq_getElem hk] at hx
    obtain rfl := Option.some.inj hx
    refine ⟨hw _, ht zs[k] _ (List.getElem_mem hk) (same_upd hD) _ ?_⟩
    have et : (zs.take (k + 1)).filter p = (zs.take k).filter p ++ ([zs[k]].filter p) := by
      rw [List.take_add_one, List.getElem?_eq_getElem hk, List.filter_append]; rfl
    show if p zs[k] = true then _ else _
    cases hp : p zs[k] with
    | true =>
      show te _ _ _
      refine he zs[k] _ (List.getElem_mem hk) (same_upd hD) hp _ ⟨_, upd_same, ?_, ?_⟩
      · rw [List.length_map]
        have := List.length_filter_le p (zs.take k)
        rw [List.length_take] at this
        omega
      · rw [upd_upd, et, List.map_append, List.filter_cons_of_pos hp]; rfl
    | false =>
      show _ = _
      rw [et, List.filter_cons_of_neg (by rw [hp]; exact Bool.false_ne_true)]
      simp
  · rw [e, List.take_length]; exact q D hD
/-- two tuples side by side -/
theorem walk_two {K : PySem.W.Frag} {a b : Addr} {xs ys : List V} {n : Nat} (hn : n = min xs.length ys.length) : Walk (RZ.ItzT K a b) n (fun H => SqT K H a xs ∧ SqT K H b ys) (YPair (fun i => xs[i]?) (fun i => ys[i]?)) := by
  refine ⟨fun i _ hi q => ⟨xs, ys, xs[i]'(by omega), ys[i]'(by omega), q.1, q.2, List.getElem?_eq_getElem _, List.getElem?_eq_getElem _⟩, fun _ q => ⟨xs, ys, q.1, q.2, by omega⟩, fun i H v H' _ q y => ?_⟩
  obtain ⟨t, x, z, e1, e2, e3, e4, e5⟩ := y
  exact ⟨t, x, z, e1, e2, e3, e4 xs q.1, e5 ys q.2⟩
/-- a comprehension over two tuples side by side -/
theorem lc_two {K : PySem.W.Frag} {H1 : Hp} {a b : Addr} {xs ys : List V} {te : TE} {vs : List Nat} {σ : L2.St} {Q : Addr → Hp → Prop} {i j n : Nat} (f : Nat → V) (hn : n = min xs.length ys.length) (hx : SqT K H1 a xs) (hy : SqT K H1 b ys) (few : n < sizeLine)
    (hw : ∀ x y, wipe (((wipe σ vs).set i (some x)).set j (some y)) vs = wipe σ vs)
    (he : ∀ (k : Nat) (x y : V) (H : Hp), xs[k]? = some x → ys[k]? = some y → Same H1 H → ∀ Qe : VK, Qe (f k) H → te (((wipe σ vs).set i (some x)).set j (some y)) H Qe)
    (q : ∀ D H', H1 D = none → Same H1 H' → H' D = some (.lst ((List.range n).map f)) → Q D H') :
    ∀ D, H1 D = none → ∃ W : Nat → Nat → Hp → Prop, (∃ m, W 0 m (upd H1 D (.lst []))) ∧ ∀ i' m H, W i' m H →
      ((RZ.ItzT K a b).stop i' H ∧ Q D H) ∨ ((RZ.ItzT K a b).go i' H ∧ ∃ Nx : Hp → Prop, (∀ H', Nx H' → ∃ m', m' < m ∧ W (i' + 1) m' H') ∧ ∀ x H', (RZ.ItzT K a b).yld i' H x H' → gTup K 2 (gCons (gName i) (gCons (gName j) gNil)) x (wipe σ vs) H' fun σ2 H2 => wipe σ2 vs = wipe σ vs ∧ tYes σ2 H2 fun b H3 =>
        if b = true then te σ2 H3 fun y H4 => ∃ acc, H4 D = some (.lst acc) ∧ acc.length < sizeLine ∧ Nx (upd H4 D (.lst (acc ++ [y]))) else Nx H3) := by
  intro D hD
  refine lc_it (walk_two (K := K) (a := a) (b := b) hn) (fun k H => Same H1 H ∧ H D = some (.lst ((List.range k).map f))) ⟨same_upd hD, upd_same⟩ (fun k H hk e => ⟨same_tup e.1 hx, same_tup e.1 hy⟩) (fun k x H H' hk e y => ?_) (fun H e => q D H hD e.1 e.2)
  obtain ⟨t, u, v, rfl, ht, rfl, e1, e2⟩ := y
  have nt : D ≠ t := ne_of_none e.2 ht
  refine ⟨t, [u, v], rfl, .inl (.inl upd_same), rfl, u, [v], rfl, v, [], rfl, rfl, ?_⟩
  refine ⟨hw _ _, ?_⟩
  show te _ _ _
  have sm : Same H1 (upd H t (.tup [u, v])) := e.1.trans (same_upd ht)
  refine he k u v _ e1 e2 sm _ ⟨(List.range k).map f, by rw [upd_ne nt]; exact e.2, by rw [List.length_map, List.length_range]; omega, fun b o hb => ?_, ?_⟩
  · have nb : b ≠ D := fun z => by rw [z, hD] at hb; cases hb
    rw [upd_ne nb]
    exact sm b o hb
  · rw [upd_same, List.range_succ, List.map_append]; rfl
end
section
/-- a comprehension over a list or tuple, by an invariant (by the turn, the new list's place, the heap) -/
theorem lc_sq {K : PySem.W.Frag} {H1 : Hp} {a : Addr} {g : TG} {tt : TT} {te : TE} {vs : List Nat} {σ : L2.St} {Q : Addr → Hp → Prop} (xs : List V) (hs : Sq K H1 a xs) (Pv : Nat → Addr → Hp → Prop) (h0 : ∀ D, H1 D = none → Pv 0 D (upd H1 D (.lst [])))
    (hk : ∀ k D H, H1 D = none → Pv k D H → ∀ o, H1 a = some o → H a = some o)
    (step : ∀ (k : Nat) (x : V) (D : Addr) (H : Hp), k < xs.length → xs[k]? = some x → H1 D = none → Pv k D H → g x (wipe σ vs) H fun σ2 H2 => wipe σ2 vs = wipe σ vs ∧ tt σ2 H2 fun b H3 =>
      if b = true then te σ2 H3 fun y H4 => ∃ acc, H4 D = some (.lst acc) ∧ acc.length < sizeLine ∧ Pv (k + 1) D (upd H4 D (.lst (acc ++ [y]))) else Pv (k + 1) D H3)
    (q : ∀ D H, H1 D = none → Pv xs.length D H → Q D H) :
    ∃ ys, Sq K H1 a ys ∧ ∀ J G, Walk J ys.length G (YAt ys) → At H1 a G → ∀ D, H1 D = none → ∃ W : Nat → Nat → Hp → Prop, (∃ m, W 0 m (upd H1 D (.lst []))) ∧ ∀ i' m H, W i' m H →
      (J.stop i' H ∧ Q D H) ∨ (J.go i' H ∧ ∃ Nx : Hp → Prop, (∀ H', Nx H' → ∃ m', m' < m ∧ W (i' + 1) m' H') ∧ ∀ x H', J.yld i' H x H' → g x (wipe σ vs) H' fun σ2 H2 => wipe σ2 vs = wipe σ vs ∧ tt σ2 H2 fun b H3 =>
        if b = true then te σ2 H3 fun y H4 => ∃ acc, H4 D = some (.lst acc) ∧ acc.length < sizeLine ∧ Nx (upd H4 D (.lst (acc ++ [y]))) else Nx H3) := by
  refine ⟨xs, hs, fun J G w hG D hD => ?_⟩
  refine lc_it w (fun k H => Pv k D H) (h0 D hD) (fun k H _ e => hG H (hk k D H hD e)) (fun k x H H' lt e y => ?_) (fun H e => q D H hD e)
  obtain ⟨rfl, hx⟩ := y
  exact step k x D _ lt hx hD e
/-- .. over range(n) -/
theorem lc_rng {H1 : Hp} {g : TG} {tt : TT} {te : TE} {vs : List Nat} {σ : L2.St} {Q : Addr → Hp → Prop} {lo : Int} {n : Nat} (Pv : Nat → Addr → Hp → Prop) (h0 : ∀ D, H1 D = none → Pv 0 D (upd H1 D (.lst [])))
    (step : ∀ (k : Nat) (D : Addr) (H : Hp), k < n → H1 D = none → Pv k D H → g (.int (lo + k)) (wipe σ vs) H fun σ2 H2 => wipe σ2 vs = wipe σ vs ∧ tt σ2 H2 fun b H3 =>
      if b = true then te σ2 H3 fun y H4 => ∃ acc, H4 D = some (.lst acc) ∧ acc.length < sizeLine ∧ Pv (k + 1) D (upd H4 D (.lst (acc ++ [y]))) else Pv (k + 1) D H3)
    (q : ∀ D H, H1 D = none → Pv n D H → Q D H) :
    ∀ D, H1 D = none → ∃ W : Nat → Nat → Hp → Prop, (∃ m, W 0 m (upd H1 D (.lst []))) ∧ ∀ i' m H, W i' m H →
      ((Itr lo n).stop i' H ∧ Q D H) ∨ ((Itr lo n).go i' H ∧ ∃ Nx : Hp → Prop, (∀ H', Nx H' → ∃ m', m' < m ∧ W (i' + 1) m' H') ∧ ∀ x H', (Itr lo n).yld i' H x H' → g x (wipe σ vs) H' fun σ2 H2 => wipe σ2 vs = wipe σ vs ∧ tt σ2 H2 fun b H3 =>
        if b = true then te σ2 H3 fun y H4 => ∃ acc, H4 D = some (.lst acc) ∧ acc.length < sizeLine ∧ Nx (upd H4 D (.lst (acc ++ [y]))) else Nx H3) := by
  intro D hD
  refine lc_it walk_range (fun k H => Pv k D H) (h0 D hD) (fun _ _ _ _ => trivial) (fun k x H H' lt e y => ?_) (fun H e => q D H hD e)
  obtain ⟨rfl, rfl⟩ := y
  exact step k D _ lt hD e
/-- a for over a list or tuple, by an invariant -/
theorem for_sq {K : PySem.W.Frag} {H1 : Hp} {a : Addr} {g : TG} {tb : TS} {D : Ends} {σ : L2.St} (xs : List V) (hs : Sq K H1 a xs) (Pv : Nat → L2.St → Hp → Prop) (h0 : Pv 0 σ H1) (hk : ∀ k σ H, Pv k σ H → ∀ o, H1 a = some o → H a = some o)
    (step : ∀ (k : Nat) (x : V) (σ : L2.St) (H : Hp), k < xs.length → xs[k]? = some x → Pv k σ H → g x σ H fun σ2 H2 => tb { D with nx := Pv (k + 1), ct := Pv (k + 1), bk := D.nx } σ2 H2) (q : ∀ σ H, Pv xs.length σ H → D.nx σ H) :
    ∃ ys, Sq K H1 a ys ∧ ∀ J G, Walk J ys.length G (YAt ys) → At H1 a G → ∃ W : Nat → Nat → L2.St → Hp → Prop, (∃ m, W 0 m σ H1) ∧ ∀ i m σ H, W i m σ H →
      (J.stop i H ∧ D.nx σ H) ∨ (J.go i H ∧ ∃ N : L2.St → Hp → Prop, (∀ σ' H', N σ' H' → ∃ m', m' < m ∧ W (i + 1) m' σ' H') ∧ ∀ x H', J.yld i H x H' → g x σ H' fun σ2 H2 => tb { D with nx := N, ct := N, bk := D.nx } σ2 H2) := by
  refine ⟨xs, hs, fun J G w hG => ?_⟩
  refine for_it w Pv h0 (fun k σ H _ e => hG H (hk k σ H e)) (fun k x σ H H' lt e y => ?_) q
  obtain ⟨rfl, hx⟩ := y
  exact step k x σ _ lt hx e
end
section
/-! ### the same rules, the written part named (for what stands within a comprehension) -/
variable {X : Cx} {K : PySem.W.Frag}
theorem ixK (h : X.K = K := by rfl) : IxR X (rIxG K) := h ▸ ix_G
theorem lenK (h : X.K = K := by rfl) : CallR X (.builtin "len") (rLenG K) := h ▸ call_lenG
theorem isiK (h : X.K = K := by rfl) : CallR X (.builtin "isinstance") (rIsiD K) := h ▸ call_isiD
theorem addK (h : X.K = K := by rfl) : OpR X (binaryOp .Add) (rAddG K) := h ▸ op_addG
theorem eqK (hu : X.A.units + 64 < cLine) (h : X.K = K := by rfl) : OpR X (compareOp .Eq) (rEqG K) := h ▸ op_eqG hu
theorem neK (hu : X.A.units + 64 < cLine) (h : X.K = K := by rfl) : OpR X (compareOp .NotEq) (rNeG K) := h ▸ op_neG hu
theorem slK (h : X.K = K := by rfl) : SlR X (rSlG K) := h ▸ sl_G
theorem tupleK (h : X.K = K := by rfl) : CallR X (.type "tuple") (rTupleG K) := h ▸ call_tupleG
theorem listK (h : X.K = K := by rfl) : CallR X (.type "list") (rListG K) := h ▸ call_listG
theorem allK (hc : X.calm = true := by rfl) (h : X.K = K := by rfl) : CallR X (.builtin "all") (rAll K) := h ▸ cr_all hc
theorem anyK (hc : X.calm = true := by rfl) (h : X.K = K := by rfl) : CallR X (.builtin "any") (rAny K) := h ▸ cr_any hc
theorem setK {w : World} (hc : X.calm = true := by rfl) (h : X.K = K := by rfl) (h2 : X.w = w := by rfl) : CallR X (.type "set") (rSetG K w) := h ▸ h2 ▸ call_setG hc
theorem sortedK {w : World} (hc : X.calm = true := by rfl) (h : X.K = K := by rfl) (h2 : X.w = w := by rfl) : CallR X (.builtin "sorted") (fun xs H Q => rSortedI K xs H Q ∨ rSortSet w xs H Q) := h ▸ h2 ▸ call_sortedG hc
theorem truK {a : Expr} {ta : TE} (ha : PE X a ta) (he : ∀ whole, isTrue a X.env whole = (do let v ← whole; standAt a.pos; holding [v] (truthy v)) := by intro _; rfl) (h : X.K = K := by rfl) : PT X a (tTruG K ta) := h ▸ pt_tru ha he
theorem piK {tg l : Expr} {tl : TE} (hl : PE X l tl) (h : X.K = K := by rfl) : PI X tg l (iSqG K tl) := h ▸ pi_G hl
theorem zipK {e e2 : Expr} {ta : TA} {p pos tpos : Pos} {elts : List Expr} {kk : Nat} (hg : Gl X "zip") (hm : X.mg "zip" = none) (ha : PA X [e, e2] ta)
    (hs : starEach [e, e2] X.env = (false, eval e X.env) :: starEach [e2] X.env := by rfl) (hpl : (backTo pos (starEach [e2] X.env)).any (·.1) = false := by rfl) (h : X.K = K := by rfl) :
    PI X (.Tuple elts kk tpos) (.Call (.Name "zip" p) [e, e2] [] pos) (RZ.iZipA K ta) := h ▸ RZ.pi_zipA hg hm ha hs hpl
theorem enumK {e : Expr} {ta : TA} {p pos tpos : Pos} {elts : List Expr} {kk : Nat} (hg : Gl X "enumerate") (hm : X.mg "enumerate" = none) (ha : PA X [e] ta) (hs : starEach [e] X.env = [(false, eval e X.env)] := by rfl) (h : X.K = K := by rfl) :
    PI X (.Tuple elts kk tpos) (.Call (.Name "enumerate" p) [e] [] pos) (iEnum K ta) := h ▸ pi_enum hg hm ha hs
theorem tupTK {es : List Expr} {k : Nat} {t : TGs} {pos : Pos} {n : Nat} (hc : X.calm = true) (ht : PGs X es t) (hn : (assignEach es X.env).length = n := by rfl) (hst : (assignEach es X.env).findIdx? (·.1) = none := by rfl) (h : X.K = K := by rfl) : PG X (.Tuple es k pos) (gTup K n t) :=
  h ▸ pg_tup hc ht hn hst
theorem fldK {e : Expr} {ta : TE} {f : Str} {pos : Pos} (he : PE X e ta) (hb : attributeBase e f X.env (eval e X.env) = eval e X.env := by rfl) (h : X.K = K := by rfl) : PE X (.Attribute e f pos) (tFld K ta f) := h ▸ pe_fld he hb
def kPart (Q : Option Int → Hp → Prop) : VK := fun x H1 => match x with
  | .int i => Q (some i) H1
  | _ => False
theorem po_G {e : Expr} {te : TE} (h : PE X e te) : PO X (some e) (fun σ H Q => te σ H (kPart Q)) := by
  refine ⟨fun pins s σ H Q I hw => ?_⟩
  rw [evalPart_some]
  refine thn (h.run pins s σ H _ I hw) fun u s1 ⟨x, H1, I1, r1, q1⟩ => ?_
  cases x with
  | int i =>
    obtain ⟨t, rfl⟩ := r1
    exact ⟨some i, H1, I1, .int i t, q1⟩
  | _ => exact (show False from q1).elim
end
end Tc

/-! What the laws' and the program's small defs promise: data told, draws. -/
namespace Tc
open PySem PySem.Spec PyProof.Rows L2
/-! ### the draws' state -/
def Bag (H : Hp) (b : Addr) : Prop := ∃ x y : Int, H b = some (.lst [.int x, .int y]) ∧ 0 ≤ y ∧ y < 4294967296
/-- all but b stays, new things may have come; b is a draws' state -/
def Gr (b : Addr) (H H' : Hp) : Prop := Bag H' b ∧ ∀ a o, a ≠ b → H a = some o → H' a = some o
theorem Gr.refl {b : Addr} {H : Hp} (h : Bag H b) : Gr b H H := ⟨h, fun _ _ _ e => e⟩
theorem Gr.trans {b : Addr} {H H1 H2 : Hp} (x : Gr b H H1) (y : Gr b H1 H2) : Gr b H H2 := ⟨y.1, fun a o n e => y.2 a o n (x.2 a o n e)⟩
/-- the heap without b -/
def off (b : Addr) (H : Hp) : Hp := fun a => if a = b then none else H a
theorem off_ne {b a : Addr} {H : Hp} (h : a ≠ b) : off b H a = H a := if_neg h
theorem off_same {b : Addr} {H : Hp} : Same (off b H) H := fun a o e => by
  unfold off at e
  split at e
  · cases e
  · exact e
theorem off_some {b a : Addr} {H : Hp} {o : HO} (e : off b H a = some o) : a ≠ b ∧ H a = some o := by
  unfold off at e
  split at e
  · cases e
  · exact ⟨by assumption, e⟩
theorem off_mk {b a : Addr} {H : Hp} {o : HO} (n : a ≠ b) (e : H a = some o) : off b H a = some o := (off_ne n).trans e
theorem Gr.same {b : Addr} {H H' : Hp} (g : Gr b H H') : Same (off b H) (off b H') := fun a o e => by
  obtain ⟨n, e⟩ := off_some e
  exact off_mk n (g.2 a o n e)
theorem Bag.new {b p : Addr} {H : Hp} {o : HO} (h : Bag H b) (hp : H p = none) : Bag (upd H p o) b := by
  obtain ⟨x, y, e, r⟩ := h
  exact ⟨x, y, by rw [upd_ne (ne_of_none e hp)]; exact e, r⟩
theorem Bag.ne {b p : Addr} {H : Hp} (h : Bag H b) (hp : H p = none) : p ≠ b := by
  obtain ⟨x, y, e, r⟩ := h
  exact (ne_of_none e hp).symm
theorem Gr.new {b p : Addr} {H : Hp} {o : HO} (h : Bag H b) (hp : H p = none) : Gr b H (upd H p o) := ⟨h.new hp, fun a u n e => by rw [upd_ne (ne_of_none e hp)]; exact e⟩
theorem Gr.free {b p : Addr} {H H' : Hp} (g : Gr b H H') (h : Bag H b) (hp : H' p = none) : H p = none := by
  cases e : H p with
  | none => rfl
  | some o =>
    have n : p ≠ b := fun z => by
      subst z
      obtain ⟨x, y, e2, _⟩ := g.1
      rw [hp] at e2; cases e2
    rw [g.2 p o n e] at hp; cases hp
/-- a change of an object that was not there in H0 -/
theorem Gr.put {b p : Addr} {H0 H : Hp} {o : HO} (g : Gr b H0 H) (n : p ≠ b) (hp : H0 p = none) : Gr b H0 (upd H p o) := by
  refine ⟨?_, fun a u na e => ?_⟩
  · obtain ⟨x, y, e, r⟩ := g.1
    exact ⟨x, y, by rw [upd_ne n.symm]; exact e, r⟩
  · have np : a ≠ p := fun z => by rw [z, hp] at e; cases e
    rw [upd_ne np]
    exact g.2 a u na e
/-- a datum that stands apart from b -/
abbrev Dat (K : PySem.W.Frag) (b : Addr) (H : Hp) (v : V) (d : PyData) : Prop := DV K (off b H) v d
abbrev Dats (K : PySem.W.Frag) (b : Addr) (H : Hp) (v : List V) (d : List PyData) : Prop := DVs K (off b H) v d
theorem Dat.dv {K : PySem.W.Frag} {b : Addr} {H : Hp} {v : V} {d : PyData} (h : Dat K b H v d) : DV K H v d := DV.same off_same h
theorem Dats.dv {K : PySem.W.Frag} {b : Addr} {H : Hp} {v : List V} {d : List PyData} (h : Dats K b H v d) : DVs K H v d := DVs.same off_same h
theorem Dat.gr {K : PySem.W.Frag} {b : Addr} {H H' : Hp} {v : V} {d : PyData} (h : Dat K b H v d) (g : Gr b H H') : Dat K b H' v d := DV.same g.same h
theorem Dats.gr {K : PySem.W.Frag} {b : Addr} {H H' : Hp} {v : List V} {d : List PyData} (h : Dats K b H v d) (g : Gr b H H') : Dats K b H' v d := DVs.same g.same h
/-- _law_take(bag, many) -/
def spTake : Sp := fun vs H Q _ => ∃ (b : Addr) (m : Int), vs = [.ref b, .int m] ∧ Bag H b ∧ 0 < m ∧ m < 2 ^ 200 ∧ ∀ r H', 0 ≤ r → r < m → Gr b H H' → Q (.int r) H'
/-- _law_bag(script, k) -/
def spBag (K : PySem.W.Frag) : Sp := fun vs H Q _ => ∃ (a : Addr) (ns : List Int) (k : Int), vs = [.ref a, .int k] ∧ SqL K H a (ns.map V.int) ∧ 0 ≤ k ∧ k < 1000 ∧ ∀ b x y, H b = none → 0 ≤ y → y < 4294967296 → Q (.ref b) (upd H b (.lst [.int x, .int y]))
/-! ### the kinds of data -/
def wholeD : PyData → Bool
  | .int _ => true
  | _ => false
def withinD (d : PyData) (lo hi : Int) : Bool := match d with
  | .int i => decide (lo ≤ i) && decide (i ≤ hi)
  | _ => false
def okPair : PyData → Bool
  | .tuple [x, y] => withinD x 0 999 && withinD y 0 999
  | _ => false
/-- the first part of a pair -/
def keyD : PyData → Int
  | .tuple (.int i :: _) => i
  | _ => 0
def risesD : List Int → Bool
  | x :: y :: r => decide (x < y) && risesD (y :: r)
  | _ => true
def pairsD : PyData → Bool
  | .tuple ds => ds.all okPair && risesD (ds.map keyD)
  | _ => false
def lenD : PyData → Nat
  | .tuple ds => ds.length
  | .list ds => ds.length
  | .str s => s.length
  | _ => 0
def lenT : PyData → Nat
  | .tuple ds => ds.length
  | _ => 0
def tableD (d : PyData) : Bool := pairsD d && decide (lenD d ≤ 100)
/-- a look at a datum -/
def spLook (K : PySem.W.Frag) (C : PyData → Prop) (f : PyData → Bool) : Sp := fun vs H Q _ => ∃ v d, vs = [v] ∧ DV K H v d ∧ C d ∧ ∀ H', Same H H' → Q (.bl (f d)) H'
/-- .. that makes nothing -/
def spLook0 (K : PySem.W.Frag) (f : PyData → Bool) : Sp := fun vs H Q _ => ∃ v d, vs = [v] ∧ DV K H v d ∧ Q (.bl (f d)) H
def spWithin (K : PySem.W.Frag) : Sp := fun vs H Q _ => ∃ v d lo hi, vs = [v, .int lo, .int hi] ∧ DV K H v d ∧ Q (.bl (withinD d lo hi)) H
theorem isD_int (d : PyData) : (isD d .int && !isD d .bool) = wholeD d := by cases d <;> rfl
theorem wholeD_int {d : PyData} (h : wholeD d = true) : ∃ i, d = .int i := by
  cases d with
  | int i => exact ⟨i, rfl⟩
  | _ => cases h
theorem wholeD_not {d : PyData} (h : wholeD d = false) (lo hi : Int) : withinD d lo hi = false := by
  cases d with
  | int i => cases h
  | _ => rfl
theorem okPair_two {ds : List PyData} (h : ds.length ≠ 2) : okPair (.tuple ds) = false := by
  match ds, h with
  | [], _ => rfl
  | [_], _ => rfl
  | [_, _], h => exact absurd rfl h
  | _ :: _ :: _ :: _, _ => rfl
theorem withinD_int {d : PyData} {lo hi : Int} (h : withinD d lo hi = true) : ∃ i, d = .int i ∧ lo ≤ i ∧ i ≤ hi := by
  cases d with
  | int i =>
    have h : (decide (lo ≤ i) && decide (i ≤ hi)) = true := h
    rw [Bool.and_eq_true, decide_eq_true_eq, decide_eq_true_eq] at h
    exact ⟨i, rfl, h.1, h.2⟩
  | _ => cases h
theorem okPair_of {d : PyData} (h : okPair d = true) : ∃ k w : Int, d = .tuple [.int k, .int w] ∧ 0 ≤ k ∧ k ≤ 999 ∧ 0 ≤ w ∧ w ≤ 999 := by
  match d, h with
  | .tuple [x, y], h =>
    have h : (withinD x 0 999 && withinD y 0 999) = true := h
    rw [Bool.and_eq_true] at h
    obtain ⟨k, rfl, h1, h2⟩ := withinD_int h.1
    obtain ⟨w, rfl, h3, h4⟩ := withinD_int h.2
    exact ⟨k, w, rfl, h1, h2, h3, h4⟩
  | .tuple [], h => cases h
  | .tuple [_], h => cases h
  | .tuple (_ :: _ :: _ :: _), h => cases h
  | .none, h => cases h
  | .bool _, h => cases h
  | .int _, h => cases h
  | .str _, h => cases h
  | .list _, h => cases h
  | .dict _, h => cases h
/-- the items beside what they are -/
theorem DVs.zip1 {K : PySem.W.Frag} {H : Hp} : ∀ {v : List V} {d : List PyData}, DVs K H v d → (v.zip d).map (·.1) = v
  | _, _, .nil => rfl
  | _, _, .cons _ t => congrArg (_ :: ·) (DVs.zip1 t)
theorem DVs.zip2 {K : PySem.W.Frag} {H : Hp} : ∀ {v : List V} {d : List PyData}, DVs K H v d → (v.zip d).map (·.2) = d
  | _, _, .nil => rfl
  | _, _, .cons _ t => congrArg (_ :: ·) (DVs.zip2 t)
theorem DVs.zipd {K : PySem.W.Frag} {H : Hp} : ∀ {v : List V} {d : List PyData}, DVs K H v d → ∀ z ∈ v.zip d, DV K H z.1 z.2
  | _, _, .nil, z, h => by cases h
  | _, _, .cons h t, z, q => by
    rcases List.mem_cons.mp q with rfl | q
    · exact h
    · exact DVs.zipd t z q
theorem DVs.zipl {K : PySem.W.Frag} {H : Hp} {v : List V} {d : List PyData} (h : DVs K H v d) : (v.zip d).length = d.length := by
  rw [← List.length_map (f := (·.2)), h.zip2]
theorem DVs.zipf {β : Type} {K : PySem.W.Frag} {H : Hp} (f : PyData → β) : ∀ {v : List V} {d : List PyData}, DVs K H v d → (v.zip d).map (fun z => f z.2) = d.map f
  | _, _, .nil => rfl
  | _, _, .cons _ t => congrArg (_ :: ·) (DVs.zipf f t)
theorem DVs.zipp {K : PySem.W.Frag} {H : Hp} (p : PyData → Bool) : ∀ {v : List V} {d : List PyData}, DVs K H v d → ((v.zip d).filter fun z => p z.2).map (fun z => z.2) = d.filter p
  | _, _, .nil => rfl
  | x :: v, y :: d, .cons _ t => by
    have ih := DVs.zipp p t
    rw [List.zip_cons_cons, List.filter_cons, List.filter_cons]
    cases e : p y <;> simp [ih]
theorem DV.ints2 {K : PySem.W.Frag} {H : Hp} {v : V} {k w : Int} (h : DV K H v (.tuple [.int k, .int w])) : ∃ p, v = .ref p ∧ SqT K H p [.int k, .int w] := by
  cases h with
  | tup hs ha =>
    cases ha with
    | cons h1 h2 =>
      cases h1
      cases h2 with
      | cons h1 h2 =>
        cases h1
        cases h2
        exact ⟨_, rfl, hs⟩
/-- the part of an item by its place -/
def keyAt (ds : List PyData) (k : Nat) : Int := keyD (ds.getD k .none)
theorem rises_at : ∀ (ds : List PyData), (List.range (ds.length - 1)).all (fun k => decide (keyAt ds k < keyAt ds (k + 1))) = risesD (ds.map keyD)
  | [] => rfl
  | [_] => rfl
  | x :: y :: r => by
    have ih := rises_at (y :: r)
    have e : (x :: y :: r).length - 1 = ((y :: r).length - 1) + 1 := by simp
    rw [e, List.range_succ_eq_map, List.all_cons, List.all_map]
    show (decide (keyD x < keyD y) && _) = (decide (keyD x < keyD y) && risesD ((y :: r).map keyD))
    rw [← ih]
    rfl
theorem cut1 (xs : List V) : cutV xs (some 1) none = xs.drop 1 := by
  unfold cutV
  rw [show HT.sIx xs.length 0 (some 1) = min 1 xs.length from HT.sIx_nat xs.length 0 1, HT.sIx_none]
  cases xs with
  | nil => rfl
  | cons x r =>
    rw [show min 1 (x :: r).length = 1 by rw [List.length_cons]; omega]
    show (List.take ((x :: r).length - 1) r) = r
    rw [List.length_cons, Nat.add_sub_cancel]
    exact List.take_length
theorem line_lt {n : Nat} (h : n ≤ 100000) : n < sizeLine := by rw [sizeLine_eq]; omega
theorem line_le {n : Nat} (h : n ≤ 100000) : n ≤ sizeLine := by rw [sizeLine_eq]; omega
theorem DVs.of_zip {K : PySem.W.Frag} {H : Hp} : ∀ {zs : List (V × PyData)}, (∀ z ∈ zs, DV K H z.1 z.2) → DVs K H (zs.map (·.1)) (zs.map (·.2))
  | [], _ => .nil
  | z :: zs, h => .cons (h z List.mem_cons_self) (DVs.of_zip fun y hy => h y (List.mem_cons_of_mem _ hy))
theorem rises_iff : ∀ l : List Int, risesD l = true ↔ l.Pairwise (· < ·)
  | [] => by simp [risesD]
  | [x] => by simp [risesD]
  | x :: y :: r => by
    have ih := rises_iff (y :: r)
    show (decide (x < y) && risesD (y :: r)) = true ↔ _
    rw [Bool.and_eq_true, decide_eq_true_eq, ih, List.pairwise_cons (a := x)]
    constructor
    · rintro ⟨h, p⟩
      refine ⟨fun z hz => ?_, p⟩
      rcases List.mem_cons.mp hz with rfl | hz
      · exact h
      · have := (List.pairwise_cons.mp p).1 z hz
        omega
    · rintro ⟨h, p⟩
      exact ⟨h y List.mem_cons_self, p⟩
theorem rising_one : ∀ {a b : List Int}, a.Pairwise (· < ·) → b.Pairwise (· < ·) → (∀ k, k ∈ a ↔ k ∈ b) → a = b
  | [], [], _, _, _ => rfl
  | [], y :: b, _, _, h => absurd ((h y).mpr List.mem_cons_self) (by simp)
  | x :: a, [], _, _, h => absurd ((h x).mp List.mem_cons_self) (by simp)
  | x :: a, y :: b, pa, pb, h => by
    obtain ⟨a1, a2⟩ := List.pairwise_cons.mp pa
    obtain ⟨b1, b2⟩ := List.pairwise_cons.mp pb
    have e : x = y := by
      rcases List.mem_cons.mp ((h x).mp List.mem_cons_self) with e | e
      · exact e
      · rcases List.mem_cons.mp ((h y).mpr List.mem_cons_self) with e2 | e2
        · exact e2.symm
        · have := b1 x e
          have := a1 y e2
          omega
    subst e
    have t := rising_one a2 b2 fun k => by
      constructor
      · intro hk
        rcases List.mem_cons.mp ((h k).mp (List.mem_cons_of_mem _ hk)) with e | e
        · have := a1 k hk
          omega
        · exact e
      · intro hk
        rcases List.mem_cons.mp ((h k).mpr (List.mem_cons_of_mem _ hk)) with e | e
        · have := b1 k hk
          omega
        · exact e
    rw [t]
theorem eqv_ints : ∀ a b : List Int, PyData.eqvAll (a.map PyData.int) (b.map PyData.int) = decide (a = b)
  | [], [] => rfl
  | [], y :: b => rfl
  | x :: a, [] => rfl
  | x :: a, y :: b => by
    have ih := eqv_ints a b
    show ((x == y) && PyData.eqvAll (a.map PyData.int) (b.map PyData.int)) = _
    rw [ih]
    by_cases e : x = y <;> by_cases t : a = b <;> simp [e, t]
theorem depth_ints : ∀ a : List Int, PyData.depthAll (a.map PyData.int) = 0
  | [] => rfl
  | x :: a => by
    have ih := depth_ints a
    simp only [List.map_cons, PyData.depthAll, ih, PyData.depth, Nat.max_self]
theorem dps_ints {K : PySem.W.Frag} {H : Hp} : ∀ a : List Int, DpAll K H (a.map V.int) (a.map PyData.int)
  | [] => .nil
  | x :: a => .cons (.int x) (dps_ints a)
/-- the keys in order, none twice: just where they rise -/
theorem rises_sorted {a b : List Int} (hb : b.Pairwise (· < ·)) (h : ∀ k, k ∈ b ↔ k ∈ a) : decide (a = b) = risesD a := by
  by_cases e : risesD a = true
  · rw [e]
    exact decide_eq_true (rising_one ((rises_iff a).mp e) hb fun k => (h k).symm)
  · rw [Bool.eq_false_iff.mpr e]
    refine decide_eq_false fun z => e ((rises_iff a).mpr ?_)
    rw [z]
    exact hb
theorem eqv_none (l : List PyData) : PyData.eqv (.list l) (.list []) = l.isEmpty := by cases l <;> rfl
theorem all_filter {α : Type} (f : α → Bool) : ∀ l : List α, (l.filter fun z => !f z).isEmpty = l.all f
  | [] => rfl
  | x :: l => by
    rw [List.all_cons, ← all_filter f l, List.filter_cons]
    cases f x <;> simp
theorem pickV (xs : List V) {r : Int} (h0 : 0 ≤ r) (h1 : r < (xs.length : Int)) : ∃ v, xs[r.toNat]? = some v ∧ atI xs r = some v := by
  have hk : r.toNat < xs.length := by omega
  refine ⟨xs[r.toNat], List.getElem?_eq_getElem hk, ?_⟩
  have e2 := atI_nat (List.getElem?_eq_getElem hk)
  rw [show ((r.toNat : Nat) : Int) = r by omega] at e2
  exact e2
theorem pickI (ms : List Int) {r : Int} (h0 : 0 ≤ r) (h1 : r < (ms.length : Int)) : ∃ m, m ∈ ms ∧ atI (ms.map V.int) r = some (.int m) := by
  obtain ⟨v, h, e⟩ := pickV (ms.map V.int) h0 (by rw [List.length_map]; exact h1)
  rw [List.getElem?_map] at h
  cases q : ms[r.toNat]? with
  | none => rw [q] at h; cases h
  | some m =>
    rw [q] at h
    cases h
    exact ⟨m, List.mem_of_getElem? q, e⟩
/-- a list of ints at p, apart from b -/
def IntsAt (b : Addr) (H : Hp) (p : Addr) (ks : List Int) : Prop := off b H p = some (.lst (ks.map V.int))
theorem IntsAt.gr {b p : Addr} {H H' : Hp} {ks : List Int} (h : IntsAt b H p ks) (g : Gr b H H') : IntsAt b H' p ks := g.same _ _ h
theorem IntsAt.at {b p : Addr} {H : Hp} {ks : List Int} (h : IntsAt b H p ks) : H p = some (.lst (ks.map V.int)) := (off_some h).2
/-- keys that rise -/
def Keys (ks : List Int) : Prop := ks.Pairwise (· < ·) ∧ (∀ k ∈ ks, 0 ≤ k ∧ k ≤ 999) ∧ ks.length ≤ 12 ∧ 0 < ks.length
/-- _law_keys(bag) -/
def spKeys : Sp := fun vs H Q _ => ∃ (b : Addr), vs = [.ref b] ∧ Bag H b ∧ ∀ p ks H', Keys ks → Gr b H H' → H p = none → IntsAt b H' p ks → Q (.ref p) H'
/-! ### data without lists: they stay whatever is done to lists -/
mutual
def noL : PyData → Bool
  | .list _ => false
  | .tuple xs => noLs xs
  | _ => true
def noLs : List PyData → Bool
  | [] => true
  | x :: xs => noL x && noLs xs
end
def TSame (H H' : Hp) : Prop := ∀ a xs, Rd H a (.tup xs) → Rd H' a (.tup xs)
theorem TSame.refl (H : Hp) : TSame H H := fun _ _ h => h
theorem TSame.trans {H H1 H2 : Hp} (x : TSame H H1) (y : TSame H1 H2) : TSame H H2 := fun a xs h => y a xs (x a xs h)
theorem TSame.of {H H' : Hp} (s : Same H H') : TSame H H' := fun a xs h => h.elim (fun h => .inl (s _ _ h)) fun ⟨o, h⟩ => .inr ⟨o, s _ _ h⟩
theorem TSame.but {H H' : Hp} {b : Addr} {o : HO} (hb : H b = some o) (n1 : ∀ xs, o ≠ .tup xs) (n2 : ∀ ob xs, o ≠ .frz ob (.tup xs)) (k : ∀ a u, a ≠ b → H a = some u → H' a = some u) : TSame H H' := fun a xs h => by
  rcases h with h | ⟨ob, h⟩
  · exact .inl (k a _ (ne_of h hb (fun z => n1 xs z.symm)) h)
  · exact .inr ⟨ob, k a _ (ne_of h hb (fun z => n2 ob xs z.symm)) h⟩
theorem TSame.lst {H : Hp} {p : Addr} {xs : List V} {o : HO} (h : H p = some (.lst xs)) : TSame H (upd H p o) := TSame.but h (fun _ z => by cases z) (fun _ _ z => by cases z) fun a u n e => by rw [upd_ne n]; exact e
theorem Gr.ts {b : Addr} {H H' : Hp} (g : Gr b H H') (h : Bag H b) : TSame H H' := by
  obtain ⟨x, y, e, _⟩ := h
  exact TSame.but e (fun _ z => by cases z) (fun _ _ z => by cases z) g.2
theorem Bag.off {b : Addr} {H : Hp} (h : Bag H b) : TSame H (off b H) := by
  obtain ⟨x, y, e, _⟩ := h
  exact TSame.but e (fun _ z => by cases z) (fun _ _ z => by cases z) fun a u n e => off_mk n e
theorem sqT_ts {K : PySem.W.Frag} {H H' : Hp} {a : Addr} {xs : List V} (t : TSame H H') (h : SqT K H a xs) : SqT K H' a xs := h.elim (fun h => .inl (t _ _ h)) .inr
mutual
theorem DV.ts {K : PySem.W.Frag} {H H' : Hp} (t : TSame H H') : ∀ {v : V} {d : PyData}, DV K H v d → noL d = true → DV K H' v d
  | _, _, .non, _ => .non
  | _, _, .bl b, _ => .bl b
  | _, _, .int i, _ => .int i
  | _, _, .str x, _ => .str x
  | _, _, .lst h q, e => by cases e
  | _, _, .tup h q, e => .tup (sqT_ts t h) (DVs.ts t q e)
theorem DVs.ts {K : PySem.W.Frag} {H H' : Hp} (t : TSame H H') : ∀ {v : List V} {d : List PyData}, DVs K H v d → noLs d = true → DVs K H' v d
  | _, _, .nil, _ => .nil
  | _, _, .cons (d := d) (ds := ds) h q, e => by
    have e : (noL d && noLs ds) = true := e
    rw [Bool.and_eq_true] at e
    exact .cons (DV.ts t h e.1) (DVs.ts t q e.2)
end
theorem noLs_all : ∀ ds : List PyData, noLs ds = ds.all noL
  | [] => rfl
  | d :: ds => by rw [List.all_cons, ← noLs_all ds]; rfl
theorem noLs_map {α : Type} (f : α → PyData) (h : ∀ x, noL (f x) = true) (l : List α) : noLs (l.map f) = true := by
  rw [noLs_all, List.all_map]
  exact List.all_eq_true.mpr fun x _ => h x
/-- a table's rows as a datum -/
def rowD (r : Int × Int) : PyData := .tuple [.int r.1, .int r.2]
def tabD (rows : List (Int × Int)) : PyData := .tuple (rows.map rowD)
/-- rows of a table, their keys among ks -/
def RowsIn (ks : List Int) (rows : List (Int × Int)) : Prop := (rows.map (·.1)).Sublist ks ∧ ∀ r ∈ rows, 0 ≤ r.2 ∧ r.2 ≤ 999
/-- _law_table(bag, keys) -/
def spTable (K : PySem.W.Frag) : Sp := fun vs H Q _ => ∃ (b p : Addr) (ks : List Int), vs = [.ref b, .ref p] ∧ Bag H b ∧ IntsAt b H p ks ∧ ks.length ≤ 1000 ∧ ∀ v rows H', RowsIn ks rows → Gr b H H' → DV K H' v (tabD rows) → Q v H'
theorem noL_row (r : Int × Int) : noL (rowD r) = true := rfl
theorem noL_tab (rows : List (Int × Int)) : noL (tabD rows) = true := noLs_map rowD noL_row rows
theorem dv_row {K : PySem.W.Frag} {p : Addr} {H : Hp} {x y : Int} (h : H p = some (.tup [.int x, .int y])) : DV K H (.ref p) (rowD (x, y)) := .tup (.inl (.inl h)) (.cons (.int x) (.cons (.int y) .nil))
theorem DVs.snoc {K : PySem.W.Frag} {H : Hp} {vs : List V} {ds : List PyData} {v : V} {d : PyData} (h : DVs K H vs ds) (h2 : DV K H v d) : DVs K H (vs ++ [v]) (ds ++ [d]) := DVs.append h (.cons h2 .nil)
end Tc

/-! Things of any kind, spoilt: bounds. -/
namespace Tc
open PySem PySem.Spec PyProof.Rows L2
def leafB (n : Nat) : PyData → Prop
  | .none => True
  | .bool _ => True
  | .int i => i.natAbs ≤ 10 ^ 40 + 2000 * n
  | .str s => s.length ≤ 2000 * 3 ^ n
  | _ => False
/-- n times spoilt, at most k deep -/
def Bd (n : Nat) : Nat → PyData → Prop
  | k + 1, .list xs => xs.length ≤ 120 + n ∧ ∀ x ∈ xs, Bd n k x
  | k + 1, .tuple xs => xs.length ≤ 120 + n ∧ ∀ x ∈ xs, Bd n k x
  | _, d => leafB n d
theorem leafB.up {n : Nat} : ∀ {d : PyData}, leafB n d → leafB (n + 1) d
  | .none, _ => trivial
  | .bool _, _ => trivial
  | .int i, h => by
    have h : i.natAbs ≤ 10 ^ 40 + 2000 * n := h
    show i.natAbs ≤ 10 ^ 40 + 2000 * (n + 1)
    omega
  | .str s, h => by
    have h : s.length ≤ 2000 * 3 ^ n := h
    show s.length ≤ 2000 * 3 ^ (n + 1)
    rw [Nat.pow_succ]
    omega
  | .list _, h => h.elim
  | .tuple _, h => h.elim
  | .dict _, h => h.elim
theorem Bd.leaf {n k : Nat} {d : PyData} (h : leafB n d) : Bd n k d := by
  cases k with
  | zero => cases d <;> first | exact h | exact h.elim
  | succ k => cases d <;> first | exact h | exact h.elim
theorem Bd.list {n k : Nat} {xs : List PyData} (h1 : xs.length ≤ 120 + n) (h2 : ∀ x ∈ xs, Bd n k x) : Bd n (k + 1) (.list xs) := ⟨h1, h2⟩
theorem Bd.tuple {n k : Nat} {xs : List PyData} (h1 : xs.length ≤ 120 + n) (h2 : ∀ x ∈ xs, Bd n k x) : Bd n (k + 1) (.tuple xs) := ⟨h1, h2⟩
theorem Bd.unlist {n k : Nat} {xs : List PyData} (h : Bd n k (.list xs)) : ∃ j, k = j + 1 ∧ xs.length ≤ 120 + n ∧ ∀ x ∈ xs, Bd n j x := by
  cases k with
  | zero => exact h.elim
  | succ k => exact ⟨k, rfl, h⟩
theorem Bd.untuple {n k : Nat} {xs : List PyData} (h : Bd n k (.tuple xs)) : ∃ j, k = j + 1 ∧ xs.length ≤ 120 + n ∧ ∀ x ∈ xs, Bd n j x := by
  cases k with
  | zero => exact h.elim
  | succ k => exact ⟨k, rfl, h⟩
theorem Bd.deep : ∀ {k n : Nat} {d : PyData}, Bd n k d → Bd n (k + 1) d
  | 0, n, d, h => by
    cases d <;> first | exact h | exact h.elim
  | k + 1, n, d, h => by
    cases d with
    | list xs => exact ⟨h.1, fun x hx => Bd.deep (h.2 x hx)⟩
    | tuple xs => exact ⟨h.1, fun x hx => Bd.deep (h.2 x hx)⟩
    | _ => exact h
theorem Bd.deeper {n k : Nat} {d : PyData} (h : Bd n k d) : ∀ {j : Nat}, k ≤ j → Bd n j d := by
  intro j hj
  obtain ⟨m, rfl⟩ := Nat.le.dest hj
  clear hj
  induction m with
  | zero => exact h
  | succ m ih => exact ih.deep
theorem Bd.up : ∀ {k n : Nat} {d : PyData}, Bd n k d → Bd (n + 1) k d
  | 0, n, d, h => by
    cases d <;> first | exact leafB.up h | exact h.elim
  | k + 1, n, d, h => by
    cases d with
    | list xs => exact ⟨Nat.le_succ_of_le h.1, fun x hx => Bd.up (h.2 x hx)⟩
    | tuple xs => exact ⟨Nat.le_succ_of_le h.1, fun x hx => Bd.up (h.2 x hx)⟩
    | _ => exact leafB.up (show leafB n _ from h)
theorem Bd.int {n k : Nat} {i : Int} (h : i.natAbs ≤ 10 ^ 40 + 2000 * n) : Bd n k (.int i) := Bd.leaf h
theorem Bd.str {n k : Nat} {s : Str} (h : s.length ≤ 2000 * 3 ^ n) : Bd n k (.str s) := Bd.leaf h
/-- the same, to be reckoned -/
def bdB (n : Nat) : Nat → PyData → Bool
  | k + 1, .list xs => decide (xs.length ≤ 120 + n) && xs.all (bdB n k)
  | k + 1, .tuple xs => decide (xs.length ≤ 120 + n) && xs.all (bdB n k)
  | _, .none => true
  | _, .bool _ => true
  | _, .int i => decide (i.natAbs ≤ 10 ^ 40 + 2000 * n)
  | _, .str s => decide (s.length ≤ 2000 * 3 ^ n)
  | _, _ => false
theorem bdB_ok : ∀ {k n : Nat} {d : PyData}, bdB n k d = true → Bd n k d
  | 0, n, d, h => by
    cases d with
    | int i => exact Bd.int (of_decide_eq_true (by simpa [bdB] using h))
    | str i => exact Bd.str (of_decide_eq_true (by simpa [bdB] using h))
    | none => exact Bd.leaf trivial
    | bool _ => exact Bd.leaf trivial
    | _ => simp [bdB] at h
  | k + 1, n, d, h => by
    cases d with
    | int i => exact Bd.int (of_decide_eq_true (by simpa [bdB] using h))
    | str i => exact Bd.str (of_decide_eq_true (by simpa [bdB] using h))
    | none => exact Bd.leaf trivial
    | bool _ => exact Bd.leaf trivial
    | list xs =>
      have h : (decide (xs.length ≤ 120 + n) && xs.all (bdB n k)) = true := h
      rw [Bool.and_eq_true, decide_eq_true_eq] at h
      exact Bd.list h.1 fun x hx => bdB_ok (List.all_eq_true.mp h.2 x hx)
    | tuple xs =>
      have h : (decide (xs.length ≤ 120 + n) && xs.all (bdB n k)) = true := h
      rw [Bool.and_eq_true, decide_eq_true_eq] at h
      exact Bd.tuple h.1 fun x hx => bdB_ok (List.all_eq_true.mp h.2 x hx)
    | _ => simp [bdB] at h
/-- what is new in H' -/
def nw (H H' : Hp) : Hp := fun a => match H a with
  | some _ => none
  | none => H' a
/-- R, and what is new in H' -/
def jn (H R H' : Hp) : Hp := fun a => match H a with
  | some _ => R a
  | none => H' a
theorem nw_new {H H' : Hp} {a : Addr} {o : HO} (h : H a = none) (e : H' a = some o) : nw H H' a = some o := by unfold nw; rw [h]; exact e
theorem nw_some {H H' : Hp} {a : Addr} {o : HO} (e : nw H H' a = some o) : H a = none ∧ H' a = some o := by
  unfold nw at e
  split at e
  · cases e
  · exact ⟨by assumption, e⟩
theorem jn_new {H R H' : Hp} {a : Addr} {o : HO} (h : H a = none) (e : H' a = some o) : jn H R H' a = some o := by unfold jn; rw [h]; exact e
theorem jn_old {b : Addr} {H R H' : Hp} (r : Same R (off b H)) : Same R (jn H R H') := fun a o e => by
  unfold jn
  rw [(off_some (r a o e)).2]
  exact e
theorem jn_nw {H R H' : Hp} : Same (nw H H') (jn H R H') := fun a o e => by
  obtain ⟨h, e⟩ := nw_some e
  exact jn_new h e
theorem jn_off {b : Addr} {H R H' : Hp} (hb : Bag H b) (r : Same R (off b H)) (g : Gr b H H') : Same (jn H R H') (off b H') := fun a o e => by
  unfold jn at e
  split at e
  · obtain ⟨n, e2⟩ := off_some (r a o e)
    exact off_mk n (g.2 a o n e2)
  · rename_i h
    refine off_mk (fun z => ?_) e
    obtain ⟨x, y, e2, _⟩ := hb
    rw [← z, h] at e2
    cases e2
theorem jn_step {b : Addr} {H0 H1 H2 H3 R : Hp} (hb : Bag H0 b) (r : Same R (off b H0)) (g : Gr b H0 H1) (k : ∀ a o, H1 a = none → H2 a = some o → H3 a = some o) : Same (jn H1 R H2) (jn H0 R H3) := fun a o e => by
  unfold jn at e
  split at e
  · exact jn_old r a o e
  · rename_i h
    exact jn_new (g.free hb h) (k a o h e)
theorem nw_step {H0 H1 H2 : Hp} (k : ∀ a o, H0 a = none → H1 a = some o → H2 a = some o) : Same (nw H0 H1) (nw H0 H2) := fun a o e => by
  obtain ⟨h, e⟩ := nw_some e
  exact nw_new h (k a o h e)
theorem Gr.nws {b : Addr} {H0 H1 H2 : Hp} (hb : Bag H0 b) (g : Gr b H1 H2) : Same (nw H0 H1) (nw H0 H2) := nw_step fun a o h e => g.2 a o (fun z => by
  obtain ⟨x, y, e2, _⟩ := hb
  rw [← z, h] at e2
  cases e2) e
/-- _law_odd(bag): a thing of any kind, all new -/
def spOdd (K : PySem.W.Frag) : Sp := fun vs H Q _ => ∃ b, vs = [.ref b] ∧ Bag H b ∧ ∀ v d H', Bd 0 3 d → Gr b H H' → DV K (nw H H') v d → Q v H'
/-- _law_spoilt(bag, thing), the thing less than k deep -/
def spSpoilt (K : PySem.W.Frag) (k : Nat) : Sp := fun vs H Q _ => ∃ b v d n j R, vs = [.ref b, v] ∧ Bag H b ∧ Same R (off b H) ∧ DV K R v d ∧ Bd n j d ∧ j < k ∧ n ≤ 7 ∧
  ∀ v' d' H', Bd (n + 1) (j + 3) d' → Gr b H H' → DV K (jn H R H') v' d' → Q v' H'
theorem Bd.all {n k : Nat} {ds es : List PyData} (h : ∀ x ∈ ds, Bd n k x) (s : ∀ x ∈ es, x ∈ ds) : ∀ x ∈ es, Bd n k x := fun x hx => h x (s x hx)
theorem cut_lo (xs : List V) (i : Int) (h0 : 0 ≤ i) (h1 : i ≤ xs.length) : cutV xs none (some i) = xs.take i.toNat := by
  obtain ⟨m, rfl⟩ : ∃ m : Nat, i = m := ⟨i.toNat, by omega⟩
  unfold cutV
  rw [HT.sIx_none, HT.sIx_nat, Nat.min_eq_left (by omega)]
  simp
theorem cut_hi (xs : List V) (i : Int) (h0 : 0 ≤ i) (h1 : i ≤ xs.length) : cutV xs (some i) none = xs.drop i.toNat := by
  obtain ⟨m, rfl⟩ : ∃ m : Nat, i = m := ⟨i.toNat, by omega⟩
  unfold cutV
  rw [HT.sIx_none, HT.sIx_nat, Nat.min_eq_left (by omega), Int.toNat_natCast]
  exact List.take_of_length_le (by rw [List.length_drop]; exact Nat.le_refl _)
theorem Gr.lst {b p : Addr} {H : Hp} {xs : List V} (h : Bag H b) (hp : H p = none) : Gr b H (upd H p (.lst xs)) := Gr.new h hp
/-- what is kept in a list of one's own -/
theorem Dats.put {K : PySem.W.Frag} {b p : Addr} {H0 H : Hp} {o : HO} {vs : List V} {ds : List PyData} (h : Dats K b H0 vs ds) (g : Gr b H0 H) (n : p ≠ b) (hp : H0 p = none) : Dats K b (upd H p o) vs ds := h.gr (g.put n hp)
theorem Dat.put {K : PySem.W.Frag} {b p : Addr} {H0 H : Hp} {o : HO} {v : V} {d : PyData} (h : Dat K b H0 v d) (g : Gr b H0 H) (n : p ≠ b) (hp : H0 p = none) : Dat K b (upd H p o) v d := h.gr (g.put n hp)
theorem mkTup {K : PySem.W.Frag} {b p : Addr} {H0 H : Hp} {vs : List V} {ds : List PyData} (hb : Bag H0 b) (g : Gr b H0 H) (n : H p = none) (h : DVs K (nw H0 H) vs ds) : DV K (nw H0 (upd H p (.tup vs))) (.ref p) (.tuple ds) :=
  .tup (.inl (.inl (nw_new (g.free hb n) upd_same))) (DVs.same (Gr.nws hb (Gr.new g.1 n)) h)
theorem mkLst {K : PySem.W.Frag} {b p : Addr} {H0 H : Hp} {vs : List V} {ds : List PyData} (hb : Bag H0 b) (g : Gr b H0 H) (n : H p = none) (h : DVs K (nw H0 H) vs ds) : DV K (nw H0 (upd H p (.lst vs))) (.ref p) (.list ds) :=
  .lst (nw_new (g.free hb n) upd_same) (DVs.same (Gr.nws hb (Gr.new g.1 n)) h)
theorem mkAt {b p : Addr} {H0 H : Hp} {vs : List V} (hb : Bag H0 b) (g : Gr b H0 H) (n : H p = none) : nw H0 (upd H p (.lst vs)) p = some (.lst vs) := nw_new (g.free hb n) upd_same
def seqD : Bool → List PyData → PyData
  | true, ds => .tuple ds
  | false, ds => .list ds
theorem ix_nat {n : Nat} {i : Int} (h0 : 0 ≤ i) (h1 : i < n) : ixN n i = some i.toNat := by
  unfold ixN
  rw [if_pos h0, if_pos (by omega)]
theorem Sq.same {K : PySem.W.Frag} {H H' : Hp} {a : Addr} {xs : List V} (e : Same H H') (h : Sq K H a xs) : Sq K H' a xs := h.elim (fun h => .inl (e.seq h)) fun h => .inr (same_tup e h)
theorem Bd.unint {n k : Nat} {i : Int} (h : Bd n k (.int i)) : i.natAbs ≤ 10 ^ 40 + 2000 * n := by cases k <;> exact h
theorem Bd.unstr {n k : Nat} {z : Str} (h : Bd n k (.str z)) : z.length ≤ 2000 * 3 ^ n := by cases k <;> exact h
theorem mem7 {α : Type} {P : α → Prop} {a b c d e f g : α} (h1 : P a) (h2 : P b) (h3 : P c) (h4 : P d) (h5 : P e) (h6 : P f) (h7 : P g) : ∀ x ∈ [a, b, c, d, e, f, g], P x := by
  intro x hx
  simp only [List.mem_cons, List.not_mem_nil, or_false] at hx
  rcases hx with rfl | rfl | rfl | rfl | rfl | rfl | rfl <;> assumption
theorem Bd.lenT {n k : Nat} {d : PyData} (h : Bd n k d) : Tc.lenT d ≤ 120 + n := by
  cases d with
  | tuple ds =>
    obtain ⟨j, _, h, _⟩ := h.untuple
    exact h
  | _ => exact Nat.zero_le _
theorem Bd.tab {rows : List (Int × Int)} {ks : List Int} (h : RowsIn ks rows) (hk : ∀ k ∈ ks, 0 ≤ k ∧ k ≤ 999) (hl : ks.length ≤ 120) : Bd 0 2 (tabD rows) := by
  refine Bd.tuple (by rw [List.length_map, ← List.length_map (f := (·.1)) (as := rows)]; exact Nat.le_trans h.1.length_le hl) fun x hx => ?_
  obtain ⟨r, hr, rfl⟩ := List.mem_map.mp hx
  have h1 := h.2 r hr
  have h2 := hk r.1 (h.1.subset (List.mem_map_of_mem hr))
  refine Bd.tuple (by show 2 ≤ _; omega) fun y hy => ?_
  simp only [List.mem_cons, List.not_mem_nil, or_false] at hy
  rcases hy with rfl | rfl <;> exact Bd.int (by omega)
/-- the law's own promise -/
def spLaw (K : PySem.W.Frag) : Sp := fun vs H Q _ => ∃ (a : Addr) (ns : List Int), vs = [.ref a] ∧ SqL K H a (ns.map V.int) ∧ ns.length ≤ 63 ∧ ∀ H', Q (.bl true) H'
theorem Bag.same {b : Addr} {H H' : Hp} (h : Bag H b) (s : Same H H') : Bag H' b := by
  obtain ⟨x, y, e, r⟩ := h
  exact ⟨x, y, s _ _ e, r⟩
theorem Gr.ofs {b : Addr} {H H' : Hp} (h : Bag H b) (s : Same H H') : Gr b H H' := ⟨h.same s, fun a o _ e => s a o e⟩
/-- what was there ahead of b stays -/
theorem Gr.base {b : Addr} {H H0 H' : Hp} (g : Gr b H0 H') (s : Same H H0) (n : H b = none) : Same H H' := fun a u e => g.2 a u (fun z => by rw [z, n] at e; cases e) (s a u e)
end Tc

/-! Changes, entries, logs. -/
namespace Tc
open PySem PySem.Spec PyProof.Rows L2
/-! ### is True, is False, is None; in -/
def rIsB : R2 := fun x y H Q => match y with
  | .non => Q (.bl (decide (x = .non))) H
  | .bl b => match x with
    | .bl a => Q (.bl (decide (a = b))) H
    | _ => False
  | _ => False
def rNotB : R2 := fun x y H Q => match y with
  | .non => Q (.bl (!decide (x = .non))) H
  | .bl b => match x with
    | .bl a => Q (.bl (!decide (a = b))) H
    | _ => False
  | _ => False
theorem op_isB {X : Cx} : OpR X (compareOp .Is) rIsB := fun pins s σ H x y v u Q I rx ry q => by
  unfold rIsB at q
  split at q
  · exact op_isN pins s σ H _ _ v u Q I rx ry ⟨rfl, q⟩
  · split at q
    · exact op_isBl pins s σ H _ _ v u Q I rx ry ⟨_, _, rfl, rfl, q⟩
    · exact q.elim
  · exact q.elim
theorem op_isnotB {X : Cx} : OpR X (compareOp .IsNot) rNotB := fun pins s σ H x y v u Q I rx ry q => by
  unfold rNotB at q
  split at q
  · exact op_notN pins s σ H _ _ v u Q I rx ry ⟨rfl, q⟩
  · split at q
    · exact op_notBl pins s σ H _ _ v u Q I rx ry ⟨_, _, rfl, rfl, q⟩
    · exact q.elim
  · exact q.elim
/-- x in a list or tuple of data -/
def rInP (K : PySem.W.Frag) (neg : Bool) : R2 := fun x y H Q => ∃ d ds, Dp K H x d ∧ (Dp K H y (.list ds) ∨ Dp K H y (.tuple ds)) ∧ d.depth ≤ 60 ∧ Q (.bl (if neg then !(ds.any fun z => PyData.eqv z d) else ds.any fun z => PyData.eqv z d)) H
theorem op_inP {X : Cx} (hu : X.A.units + 64 < cLine) : OpR X (compareOp .In) (rInP X.K false) := fun pins s σ H x y v u Q I rx ry q => by
  obtain ⟨d, ds, hd, hy, hm, q⟩ := q
  obtain ⟨as, r1⟩ := Dp.reads I d x v hd rx
  have pd := dp_plain hd
  rcases hy with hy | hy
  · obtain ⟨bs, r2⟩ := Dp.reads I _ y u hy ry
    have pl : PyData.plainAll ds = true := by have z := dp_plain hy; simpa only [PyData.plain] using z
    exact SeqAt.in_list_data r2 r1 pl pd (by omega) ⟨.bl _, H, I, rfl, q⟩
  · obtain ⟨bs, r2⟩ := Dp.reads I _ y u hy ry
    have pl : PyData.plainAll ds = true := by have z := dp_plain hy; simpa only [PyData.plain] using z
    exact SeqAt.in_tuple_data r2 r1 pl pd (by omega) ⟨.bl _, H, I, rfl, q⟩
theorem op_notinP {X : Cx} (hu : X.A.units + 64 < cLine) : OpR X (compareOp .NotIn) (rInP X.K true) := fun pins s σ H x y v u Q I rx ry q => by
  obtain ⟨d, ds, hd, hy, hm, q⟩ := q
  obtain ⟨as, r1⟩ := Dp.reads I d x v hd rx
  have pd := dp_plain hd
  rcases hy with hy | hy
  · obtain ⟨bs, r2⟩ := Dp.reads I _ y u hy ry
    have pl : PyData.plainAll ds = true := by have z := dp_plain hy; simpa only [PyData.plain] using z
    exact SeqAt.notIn_list_data r2 r1 pl pd (by omega) ⟨.bl _, H, I, rfl, q⟩
  · obtain ⟨bs, r2⟩ := Dp.reads I _ y u hy ry
    have pl : PyData.plainAll ds = true := by have z := dp_plain hy; simpa only [PyData.plain] using z
    exact SeqAt.notIn_tuple_data r2 r1 pl pd (by omega) ⟨.bl _, H, I, rfl, q⟩
theorem inK {X : Cx} {K : PySem.W.Frag} (hu : X.A.units + 64 < cLine) (h : X.K = K := by rfl) : OpR X (compareOp .In) (rInP K false) := h ▸ op_inP hu
theorem notinK {X : Cx} {K : PySem.W.Frag} (hu : X.A.units + 64 < cLine) (h : X.K = K := by rfl) : OpR X (compareOp .NotIn) (rInP K true) := h ▸ op_notinP hu
/-! ### a < b < c as a test -/
theorem pt_chainG {X : Cx} {a b c : Expr} {ta tb tc : TE} {pos : Pos} {op op' : CmpOp} {r r' : R2} (ho : OpR X (compareOp op) r) (ho' : OpR X (compareOp op') r') (ha : PE X a ta) (hb : PE X b tb) (hc : PE X c tc)
    (hm : lastMarks [op, op'] [b, c] = false := by with_unfolding_all rfl) : PT X (.Compare a [op, op'] [b, c] pos) (tTestG (tChainG r r' ta tb tc)) := by
  refine ⟨fun pins s σ H Q I h => ?_⟩
  refine isTrue_chain (thn (ha.run pins s σ H _ I h) fun v s1 ⟨x, H1, I1, r1, q1⟩ => test_link (thn (hb.run pins s1 σ H1 _ I1 q1) fun u s2 ⟨y, H2, I2, r2, q2⟩ =>
    thn (ho pins s2 σ H2 x y v u _ I2 r1 r2 q2) fun d s3 ⟨z, H3, I3, r3, q3⟩ => ?_)) hm
  cases z with
  | bl k =>
    cases r3
    refine wpAny_truthy_bool ?_
    cases k with
    | false => exact ite_ff ⟨H3, I3, q3⟩
    | true =>
      refine ite_tt (test_last (thn (hc.run pins s3 σ H3 _ I3 q3) fun w' s4 ⟨z', H4, I4, r4, q4⟩ => thn (ho' pins s4 σ H4 y z' u w' _ I4 r2 r4 q4) fun d' s5 ⟨z2, H5, I5, r5, q5⟩ => ?_))
      cases z2 with
      | bl k2 =>
        cases r5
        exact wpAny_truthy_bool ⟨H5, I5, q5⟩
      | _ => exact (show False from q5).elim
  | _ => exact (show False from q3).elim
/-- a comprehension whose element is a function of the item, and may make new things -/
theorem lc_grow {α : Type} {K : PySem.W.Frag} {H1 : Hp} {a : Addr} (zs : List (V × α)) {te : TE} {vs : List Nat} {σ : L2.St} {Q : Addr → Hp → Prop} {i : Nat} (f : V × α → V) (hs : Sq K H1 a (zs.map (·.1))) (few : zs.length < sizeLine)
    (hw : ∀ x, wipe ((wipe σ vs).set i (some x)) vs = wipe σ vs)
    (he : ∀ (z : V × α) (H : Hp), z ∈ zs → Same H1 H → ∀ Qe : VK, (∀ H', Same H H' → Qe (f z) H') → te ((wipe σ vs).set i (some z.1)) H Qe)
    (q : ∀ D H', H1 D = none → Same H1 H' → H' D = some (.lst (zs.map f)) → Q D H') :
    ∃ ys, Sq K H1 a ys ∧ ∀ J G, Walk J ys.length G (YAt ys) → At H1 a G → ∀ D, H1 D = none → ∃ W : Nat → Nat → Hp → Prop, (∃ m, W 0 m (upd H1 D (.lst []))) ∧ ∀ i' m H, W i' m H →
      (J.stop i' H ∧ Q D H) ∨ (J.go i' H ∧ ∃ Nx : Hp → Prop, (∀ H', Nx H' → ∃ m', m' < m ∧ W (i' + 1) m' H') ∧ ∀ x H', J.yld i' H x H' → gName i x (wipe σ vs) H' fun σ2 H2 => wipe σ2 vs = wipe σ vs ∧ tYes σ2 H2 fun b H3 =>
        if b = true then te σ2 H3 fun y H4 => ∃ acc, H4 D = some (.lst acc) ∧ acc.length < sizeLine ∧ Nx (upd H4 D (.lst (acc ++ [y]))) else Nx H3) := by
  refine ⟨_, hs, fun J G w hG D hD => ?_⟩
  rw [List.length_map] at w
  refine lc_it w (fun k H => Same H1 H ∧ H D = some (.lst ((zs.take k).map f))) ⟨same_upd hD, upd_same⟩ (fun k H hk e => hG H fun o ho => e.1 _ _ ho) (fun k x H H' hk e y => ?_) (fun H e => ?_)
  · obtain ⟨rfl, hx⟩ := y
    rw [List.getElem?_map, List.getElem?_eq_getElem hk] at hx
    obtain rfl := Option.some.inj hx
    refine ⟨hw _, ?_⟩
    show te _ _ _
    refine he zs[k] _ (List.getElem_mem hk) e.1 _ fun H'' sm => ⟨_, sm _ _ e.2, ?_, fun a o ha => ?_, ?_⟩
    · rw [List.length_map, List.length_take]; omega
    · have n : a ≠ D := fun z => by rw [z, hD] at ha; cases ha
      rw [upd_ne n]
      exact sm _ _ (e.1 _ _ ha)
    · rw [upd_same, List.take_add_one, List.getElem?_eq_getElem hk, List.map_append]; rfl
  · have e2 := e.2
    rw [List.take_length] at e2
    exact q D H hD e.1 e2
theorem lc_growF {α : Type} {K : PySem.W.Frag} {H1 : Hp} {a : Addr} (zs : List (V × α)) {tt : TT} {te : TE} {vs : List Nat} {σ : L2.St} {Q : Addr → Hp → Prop} {i : Nat} (p : V × α → Bool) (f : V × α → V) (hs : Sq K H1 a (zs.map (·.1))) (few : zs.length < sizeLine)
    (hw : ∀ x, wipe ((wipe σ vs).set i (some x)) vs = wipe σ vs)
    (ht : ∀ (z : V × α) (H : Hp), z ∈ zs → Same H1 H → ∀ Qe : Bool → Hp → Prop, (∀ H', Same H H' → Qe (p z) H') → tt ((wipe σ vs).set i (some z.1)) H Qe)
    (he : ∀ (z : V × α) (H : Hp), z ∈ zs → Same H1 H → p z = true → ∀ Qe : VK, (∀ H', Same H H' → Qe (f z) H') → te ((wipe σ vs).set i (some z.1)) H Qe)
    (q : ∀ D H', H1 D = none → Same H1 H' → H' D = some (.lst ((zs.filter p).map f)) → Q D H') :
    ∃ ys, Sq K H1 a ys ∧ ∀ J G, Walk J ys.length G (YAt ys) → At H1 a G → ∀ D, H1 D = none → ∃ W : Nat → Nat → Hp → Prop, (∃ m, W 0 m (upd H1 D (.lst []))) ∧ ∀ i' m H, W i' m H →
      (J.stop i' H ∧ Q D H) ∨ (J.go i' H ∧ ∃ Nx : Hp → Prop, (∀ H', Nx H' → ∃ m', m' < m ∧ W (i' + 1) m' H') ∧ ∀ x H', J.yld i' H x H' → gName i x (wipe σ vs) H' fun σ2 H2 => wipe σ2 vs = wipe σ vs ∧ tt σ2 H2 fun b H3 =>
        if b = true then te σ2 H3 fun y H4 => ∃ acc, H4 D = some (.lst acc) ∧ acc.length < sizeLine ∧ Nx (upd H4 D (.lst (acc ++ [y]))) else Nx H3) := by
  refine ⟨_, hs, fun J G w hG D hD => ?_⟩
  rw [List.length_map] at w
  refine lc_it w (fun k H => Same H1 H ∧ H D = some (.lst (((zs.take k).filter p).map f))) ⟨same_upd hD, upd_same⟩ (fun k H hk e => hG H fun o ho => e.1 _ _ ho) (fun k x H H' hk e y => ?_) (fun H e => ?_)
  · obtain ⟨rfl, hx⟩ := y
    rw [List.getElem?_map, List.getElem?_eq_getElem hk] at hx
    obtain rfl := Option.some.inj hx
    have et : (zs.take (k + 1)).filter p = (zs.take k).filter p ++ ([zs[k]].filter p) := by
      rw [List.take_add_one, List.getElem?_eq_getElem hk, List.filter_append]; rfl
    refine ⟨hw _, ht zs[k] _ (List.getElem_mem hk) e.1 _ fun H2 s2 => ?_⟩
    show if p zs[k] = true then _ else _
    cases hp : p zs[k] with
    | true =>
      show te _ _ _
      refine he zs[k] _ (List.getElem_mem hk) (e.1.trans s2) hp _ fun H'' sm => ⟨_, sm _ _ (s2 _ _ e.2), ?_, fun a o ha => ?_, ?_⟩
      · rw [List.length_map]
        have := List.length_filter_le p (zs.take k)
        rw [List.length_take] at this
        omega
      · have n : a ≠ D := fun z => by rw [z, hD] at ha; cases ha
        rw [upd_ne n]
        exact sm _ _ (s2 _ _ (e.1 _ _ ha))
      · rw [upd_same, et, List.map_append, List.filter_cons_of_pos hp]; rfl
    | false =>
      refine ⟨e.1.trans s2, ?_⟩
      rw [et, List.filter_cons_of_neg (by rw [hp]; exact Bool.false_ne_true)]
      simp only [List.filter_nil, List.append_nil]
      exact s2 _ _ e.2
  · have e2 := e.2
    rw [List.take_length] at e2
    exact q D H hD e.1 e2
theorem at0 {x : V} {xs : List V} : atI (x :: xs) 0 = some x := atI_nat (j := 0) rfl
theorem at1 {x y : V} {xs : List V} : atI (x :: y :: xs) 1 = some y := atI_nat (j := 1) rfl
theorem at2 {x y z : V} {xs : List V} : atI (x :: y :: z :: xs) 2 = some z := atI_nat (j := 2) rfl
/-! ### what is what -/
def changeT (s : Str) : List PyData → Bool
  | [x] => decide (s = "drop") && withinD x 0 999
  | [x, y] => decide (s = "put") && (withinD x 0 999 && withinD y 0 999)
  | _ => false
def changeD : PyData → Bool
  | .tuple (.str s :: r) => changeT s r
  | _ => false
def changesD : PyData → Bool
  | .tuple ds => decide (1 ≤ ds.length) && (decide (ds.length ≤ 6) && ds.all changeD)
  | _ => false
def geD (lo : Int) : PyData → Bool
  | .int i => decide (lo ≤ i)
  | _ => false
def entryT (s : Str) : List PyData → Bool
  | [x] => decide (s = "group") && changesD x
  | [x, y] => (decide (s = "low") || decide (s = "high")) && (geD 1 x && geD 0 y)
  | _ => false
def entryD : PyData → Bool
  | .tuple (.str s :: r) => entryT s r
  | _ => false
def logD : PyData → Bool
  | .list ds => decide (ds.length ≤ 400) && ds.all entryD
  | _ => false
theorem eqv_unit (l : List PyData) : PyData.eqv (.tuple l) (.tuple []) = l.isEmpty := by cases l <;> rfl
theorem entry_last {s : Str} {ds : List PyData} (h : ds.length ≠ 1) (h2 : ds.length ≠ 2) : entryT s ds = false := by
  match ds, h, h2 with
  | [], _, _ => rfl
  | [_], h, _ => exact absurd rfl h
  | [_, _], _, h => exact absurd rfl h
  | _ :: _ :: _ :: _, _, _ => rfl
theorem change_last {s : Str} {ds : List PyData} (h : ds.length ≠ 1) (h2 : ds.length ≠ 2) : changeT s ds = false := by
  match ds, h, h2 with
  | [], _, _ => rfl
  | [_], h, _ => exact absurd rfl h
  | [_, _], _, h => exact absurd rfl h
  | _ :: _ :: _ :: _, _, _ => rfl
theorem dec_true {p : Prop} [Decidable p] (h : p) : decide p = true := decide_eq_true h
theorem DVs.one {K : PySem.W.Frag} {H : Hp} {v : List V} {d : List PyData} (h : DVs K H v d) (n : v.length = 1) : ∃ x a, v = [x] ∧ d = [a] ∧ DV K H x a := by
  match v, d, h, n with
  | [x], [a], .cons h1 .nil, _ => exact ⟨x, a, rfl, rfl, h1⟩
theorem int_of_whole {K : PySem.W.Frag} {H : Hp} {v : V} {d : PyData} (h : DV K H v d) (e : wholeD d = true) : ∃ i, v = .int i ∧ d = .int i := by
  obtain ⟨i, rfl⟩ := wholeD_int e
  cases h
  exact ⟨i, rfl, rfl⟩
theorem geD_not {d : PyData} (h : wholeD d = false) (lo : Int) : geD lo d = false := by
  cases d with
  | int i => cases h
  | _ => rfl
/-- a look that may make new things, of anything -/
abbrev spLk (K : PySem.W.Frag) (f : PyData → Bool) : Sp := spLook K (fun _ => True) f
theorem changeD_len {ds : List PyData} (h : ds.length ≠ 2) (h2 : ds.length ≠ 3) : changeD (.tuple ds) = false := by
  match ds, h, h2 with
  | [], _, _ => rfl
  | .str s :: r, h, h2 => exact change_last (fun e => h (by rw [List.length_cons, e])) (fun e => h2 (by rw [List.length_cons, e]))
  | .none :: r, _, _ => rfl
  | .bool _ :: r, _, _ => rfl
  | .int _ :: r, _, _ => rfl
  | .list _ :: r, _, _ => rfl
  | .tuple _ :: r, _, _ => rfl
  | .dict _ :: r, _, _ => rfl
theorem entryD_len {ds : List PyData} (h : ds.length ≠ 2) (h2 : ds.length ≠ 3) : entryD (.tuple ds) = false := by
  match ds, h, h2 with
  | [], _, _ => rfl
  | .str s :: r, h, h2 => exact entry_last (fun e => h (by rw [List.length_cons, e])) (fun e => h2 (by rw [List.length_cons, e]))
  | .none :: r, _, _ => rfl
  | .bool _ :: r, _, _ => rfl
  | .int _ :: r, _, _ => rfl
  | .list _ :: r, _, _ => rfl
  | .tuple _ :: r, _, _ => rfl
  | .dict _ :: r, _, _ => rfl
/-- the test 2 <= len <= 3 -/
theorem two_three {n : Nat} (h : ¬ (!decide ((n : Int) ≤ 3)) = true) (h2 : decide ((2 : Int) ≤ (n : Int)) = true) : n = 2 ∨ n = 3 := by
  have h := Bool.eq_false_iff.mpr h
  rw [Bool.not_eq_false', decide_eq_true_eq] at h
  rw [decide_eq_true_eq] at h2
  omega
theorem not_true {b : Bool} (h : ¬ b = true) : b = false := Bool.eq_false_iff.mpr h
theorem nnot_true {b : Bool} (h : ¬ (!b) = true) : b = true := by cases b <;> simp_all
theorem not_eq_true {b : Bool} (h : (!b) = true) : b = false := by cases b <;> simp_all
end Tc

/-! Changes, entries and logs as they are drawn. -/
namespace Tc
open PySem PySem.Spec PyProof.Rows L2
inductive Ch where
  | drop (k : Int)
  | put (k w : Int)
def Ch.key : Ch → Int
  | .drop k => k
  | .put k _ => k
def chD : Ch → PyData
  | .drop k => .tuple [.str "drop", .int k]
  | .put k w => .tuple [.str "put", .int k, .int w]
def chsD (cs : List Ch) : PyData := .tuple (cs.map chD)
def Ch.In (ks : List Int) : Ch → Prop
  | .drop k => k ∈ ks
  | .put k w => k ∈ ks ∧ 0 ≤ w ∧ w ≤ 999
inductive Ent where
  | group (cs : List Ch)
  | mark (lo : Bool) (life num : Int)
def mkS : Bool → Str
  | true => "low"
  | false => "high"
def entD : Ent → PyData
  | .group cs => .tuple [.str "group", chsD cs]
  | .mark lo l n => .tuple [.str (mkS lo), .int l, .int n]
def Ent.In (ks : List Int) (m : Nat) : Ent → Prop
  | .group cs => 1 ≤ cs.length ∧ cs.length ≤ m ∧ ∀ c ∈ cs, c.In ks
  | .mark _ l n => 1 ≤ l ∧ l ≤ 4 ∧ 0 ≤ n ∧ n ≤ 8
theorem noL_ch (c : Ch) : noL (chD c) = true := by cases c <;> rfl
theorem noL_chs (cs : List Ch) : noL (chsD cs) = true := noLs_map chD noL_ch cs
theorem noL_ent (e : Ent) : noL (entD e) = true := by
  cases e with
  | group cs =>
    show (noL (.str "group") && (noL (chsD cs) && true)) = true
    rw [noL_chs]; rfl
  | mark lo l n => rfl
theorem Bd.ch {ks : List Int} {c : Ch} (h : c.In ks) (hk : ∀ k ∈ ks, 0 ≤ k ∧ k ≤ 999) : Bd 0 1 (chD c) := by
  cases c with
  | drop k =>
    have h0 := hk k h
    refine Bd.tuple (by show 2 ≤ _; omega) fun y hy => ?_
    simp only [List.mem_cons, List.not_mem_nil, or_false] at hy
    rcases hy with rfl | rfl
    · exact Bd.str (by show 4 ≤ _; decide)
    · exact Bd.int (by omega)
  | put k w =>
    have h0 := hk k h.1
    have h1 := h.2
    refine Bd.tuple (by show 3 ≤ _; omega) fun y hy => ?_
    simp only [List.mem_cons, List.not_mem_nil, or_false] at hy
    rcases hy with rfl | rfl | rfl
    · exact Bd.str (by show 3 ≤ _; decide)
    · exact Bd.int (by omega)
    · exact Bd.int (by omega)
theorem Bd.ent {ks : List Int} {m : Nat} {e : Ent} (h : e.In ks m) (hm : m ≤ 100) (hk : ∀ k ∈ ks, 0 ≤ k ∧ k ≤ 999) : Bd 0 3 (entD e) := by
  cases e with
  | group cs =>
    refine Bd.tuple (by show 2 ≤ _; omega) fun y hy => ?_
    simp only [List.mem_cons, List.not_mem_nil, or_false] at hy
    rcases hy with rfl | rfl
    · exact Bd.str (by show 5 ≤ _; decide)
    · refine Bd.tuple (by rw [List.length_map]; have := h.2.1; omega) fun x hx => ?_
      obtain ⟨c, hc, rfl⟩ := List.mem_map.mp hx
      exact Bd.ch (h.2.2 c hc) hk
  | mark lo l n =>
    obtain ⟨h1, h2, h3, h4⟩ := h
    refine Bd.tuple (by show 3 ≤ _; omega) fun y hy => ?_
    simp only [List.mem_cons, List.not_mem_nil, or_false] at hy
    rcases hy with rfl | rfl | rfl
    · exact Bd.str (by cases lo <;> (show _ ≤ 2000 * 3 ^ 0; decide))
    · exact Bd.int (by omega)
    · exact Bd.int (by omega)
theorem Bd.log {ks : List Int} {m : Nat} {es : List Ent} (h : ∀ e ∈ es, e.In ks m) (hl : es.length ≤ 120) (hm : m ≤ 100) (hk : ∀ k ∈ ks, 0 ≤ k ∧ k ≤ 999) : Bd 0 4 (.list (es.map entD)) := by
  refine Bd.list (by rw [List.length_map]; omega) fun x hx => ?_
  obtain ⟨e, he, rfl⟩ := List.mem_map.mp hx
  exact Bd.ent (h e he) hm hk
/-- a list or tuple apart from b -/
def SqAt (K : PySem.W.Frag) (b : Addr) (H : Hp) (p : Addr) (xs : List V) : Prop := Sq K (off b H) p xs
theorem SqAt.gr {K : PySem.W.Frag} {b p : Addr} {H H' : Hp} {xs : List V} (h : SqAt K b H p xs) (g : Gr b H H') : SqAt K b H' p xs := Sq.same g.same h
theorem SqAt.sq {K : PySem.W.Frag} {b p : Addr} {H : Hp} {xs : List V} (h : SqAt K b H p xs) : Sq K H p xs := Sq.same off_same h
theorem IntsAt.sqAt {K : PySem.W.Frag} {b p : Addr} {H : Hp} {ks : List Int} (h : IntsAt b H p ks) : SqAt K b H p (ks.map V.int) := .inl (SqL.of h)
/-- _law_of(bag, some) -/
def spOf (K : PySem.W.Frag) : Sp := fun vs H Q _ => ∃ (b p : Addr) (xs : List V), vs = [.ref b, .ref p] ∧ Bag H b ∧ SqAt K b H p xs ∧ 0 < xs.length ∧ xs.length < 1000000 ∧ ∀ (x : V) (H' : Hp), x ∈ xs → Gr b H H' → Q x H'
/-- _law_changes(bag, keys, most) -/
def spChanges (K : PySem.W.Frag) : Sp := fun vs H Q _ => ∃ (b p : Addr) (ks : List Int) (m : Nat), vs = [.ref b, .ref p, .int m] ∧ Bag H b ∧ IntsAt b H p ks ∧ 0 < ks.length ∧ ks.length ≤ 1000 ∧ 0 < m ∧ m ≤ 100 ∧
  ∀ (t : Addr) (vs : List V) (cs : List Ch) (H' : Hp), H t = none → 1 ≤ cs.length → cs.length ≤ m → (∀ c ∈ cs, Ch.In ks c) → Gr b H H' → H' t = some (.tup vs) → DVs K H' vs (cs.map chD) → Q (.ref t) H'
/-- _law_entry(bag, keys) -/
def spEntry (K : PySem.W.Frag) : Sp := fun vs H Q _ => ∃ (b p : Addr) (ks : List Int), vs = [.ref b, .ref p] ∧ Bag H b ∧ IntsAt b H p ks ∧ 0 < ks.length ∧ ks.length ≤ 1000 ∧
  ∀ (v : V) (e : Ent) (H' : Hp), Ent.In ks 3 e → Gr b H H' → DV K H' v (entD e) → Q v H'
/-- _law_log(bag, keys, most) -/
def spLog (K : PySem.W.Frag) : Sp := fun vs H Q _ => ∃ (b p : Addr) (ks : List Int) (m : Nat), vs = [.ref b, .ref p, .int m] ∧ Bag H b ∧ IntsAt b H p ks ∧ 0 < ks.length ∧ ks.length ≤ 1000 ∧ m ≤ 1000 ∧
  ∀ (D : Addr) (vs : List V) (es : List Ent) (H' : Hp), H D = none → es.length ≤ m → (∀ e ∈ es, Ent.In ks 3 e) → Gr b H H' → H' D = some (.lst vs) → DVs K H' vs (es.map entD) → Q (.ref D) H'
theorem DVs.nil_of {K : PySem.W.Frag} {H : Hp} {vs : List V} (h : DVs K H vs []) : vs = [] := by cases h; rfl
theorem dv_drop {K : PySem.W.Frag} {p : Addr} {H : Hp} {k : Int} (h : H p = some (.tup [.str "drop", .int k])) : DV K H (.ref p) (chD (.drop k)) := .tup (.inl (.inl h)) (.cons (.str _) (.cons (.int k) .nil))
theorem dv_put {K : PySem.W.Frag} {p : Addr} {H : Hp} {k w : Int} (h : H p = some (.tup [.str "put", .int k, .int w])) : DV K H (.ref p) (chD (.put k w)) := .tup (.inl (.inl h)) (.cons (.str _) (.cons (.int k) (.cons (.int w) .nil)))
theorem noLs_chs (cs : List Ch) : noLs (cs.map chD) = true := noLs_map chD noL_ch cs
theorem noLs_ents (es : List Ent) : noLs (es.map entD) = true := noLs_map entD noL_ent es
/-- a stretch between two statements -/
def tMid (t : TS) : TS := fun D σ H => ∃ M : L2.St → Hp → Prop, t { D with nx := M } σ H ∧ ∀ σ' H', M σ' H' → D.nx σ' H'
theorem ps_mid {X : Cx} {st : Stmt} {t : TS} (h : PS X st t) : PS X st (tMid t) := by
  refine ⟨fun pins s σ H D I ⟨M, q, k⟩ => thn (h.run pins s σ H _ I q) fun f s1 z => ?_⟩
  cases f with
  | next =>
    obtain ⟨σ', H', I', m⟩ := z
    exact ⟨σ', H', I', k _ _ m⟩
  | _ => exact z
theorem DVs.rep {K : PySem.W.Frag} {H : Hp} {v : V} {d : PyData} (h : DV K H v d) : ∀ n : Nat, DVs K H (List.replicate n [v]).flatten (List.replicate n d)
  | 0 => .nil
  | n + 1 => .cons h (DVs.rep h n)
theorem chD_ok {ks : List Int} {c : Ch} (h : c.In ks) (hk : ∀ k ∈ ks, 0 ≤ k ∧ k ≤ 999) : changeD (chD c) = true := by
  cases c with
  | drop k =>
    have h0 := hk k h
    show (decide (("drop" : Str) = "drop") && (decide (0 ≤ k) && decide (k ≤ 999))) = true
    rw [dec_true rfl, dec_true h0.1, dec_true h0.2]; rfl
  | put k w =>
    have h0 := hk k h.1
    show (decide (("put" : Str) = "put") && ((decide (0 ≤ k) && decide (k ≤ 999)) && (decide (0 ≤ w) && decide (w ≤ 999)))) = true
    rw [dec_true rfl, dec_true h0.1, dec_true h0.2, dec_true h.2.1, dec_true h.2.2]; rfl
theorem chsD_ok {ks : List Int} {cs : List Ch} (h : ∀ c ∈ cs, Ch.In ks c) (h1 : 1 ≤ cs.length) (h6 : cs.length ≤ 6) (hk : ∀ k ∈ ks, 0 ≤ k ∧ k ≤ 999) : changesD (chsD cs) = true := by
  show (decide (1 ≤ (cs.map chD).length) && (decide ((cs.map chD).length ≤ 6) && (cs.map chD).all changeD)) = true
  rw [List.length_map, dec_true h1, dec_true h6, List.all_map, Bool.true_and, Bool.true_and]
  exact List.all_eq_true.mpr fun c hc => chD_ok (h c hc) hk
theorem entD_ok {ks : List Int} {m : Nat} {e : Ent} (h : e.In ks m) (hm : m ≤ 6) (hk : ∀ k ∈ ks, 0 ≤ k ∧ k ≤ 999) : entryD (entD e) = true := by
  cases e with
  | group cs =>
    show (decide (("group" : Str) = "group") && changesD (chsD cs)) = true
    rw [dec_true rfl, chsD_ok h.2.2 h.1 (Nat.le_trans h.2.1 hm) hk]; rfl
  | mark lo l n =>
    obtain ⟨h1, h2, h3, h4⟩ := h
    have z : (geD 1 (.int l) && geD 0 (.int n)) = true := by
      show (decide (1 ≤ l) && decide (0 ≤ n)) = true
      rw [dec_true h1, dec_true h3]; rfl
    show ((decide (mkS lo = "low") || decide (mkS lo = "high")) && (geD 1 (.int l) && geD 0 (.int n))) = true
    rw [z, Bool.and_true]
    cases lo with
    | true => rw [dec_true (show mkS true = "low" from rfl)]; rfl
    | false => rw [dec_true (show mkS false = "high" from rfl), Bool.or_true]
theorem logD_rep {e : PyData} (h : entryD e = true) (n : Nat) : logD (.list (List.replicate n e)) = decide (n ≤ 400) := by
  show (decide ((List.replicate n e).length ≤ 400) && (List.replicate n e).all entryD) = _
  rw [List.length_replicate]
  have z : (List.replicate n e).all entryD = true := List.all_eq_true.mpr fun x hx => by rw [(List.mem_replicate.mp hx).2]; exact h
  rw [z, Bool.and_true]
/-- the parts of a list or tuple -/
def itemsD : PyData → List PyData
  | .list ds => ds
  | .tuple ds => ds
  | _ => []
end Tc

namespace K02
open PySem PySem.Spec PyProof.Rows L2 Tc
def topS (i : Nat) : Stmt := PySem.Challenge.pw_tidecopy_k02_entries_and_logs_told.main.body.getD i (.Pass ⟨0, 0, 0, 0⟩)
abbrev s_is_whole : Stmt := topS 5
abbrev s_is_within : Stmt := topS 6
abbrev s_is_pair : Stmt := topS 7
abbrev s_is_change : Stmt := topS 8
abbrev s_are_changes : Stmt := topS 9
abbrev s_is_entry : Stmt := topS 10
abbrev s_is_log : Stmt := topS 11
abbrev s__law_bag : Stmt := topS 13
abbrev s__law_take : Stmt := topS 14
abbrev s__law_of : Stmt := topS 15
abbrev s__law_whole : Stmt := topS 16
abbrev s__law_within : Stmt := topS 17
abbrev s__law_odd : Stmt := topS 18
abbrev s__law_spoilt : Stmt := topS 19
abbrev s__law_keys : Stmt := topS 20
abbrev s__law_changes : Stmt := topS 21
abbrev s__law_entry : Stmt := topS 22
abbrev s__law_log : Stmt := topS 23
abbrev s__law_is_change : Stmt := topS 24
abbrev s__law_are_changes : Stmt := topS 25
abbrev s__law_is_entry : Stmt := topS 26
abbrev s__law_is_log : Stmt := topS 27
abbrev s_law : Stmt := topS 28
theorem sc_is_whole : FnScope ["thing"] ["thing"] (defScope s_is_whole) := ⟨rfl, rfl, rfl, by decide +kernel, rfl, by decide +kernel, by decide +kernel⟩
theorem sc_is_within : FnScope ["thing", "least", "most"] ["thing", "least", "most"] (defScope s_is_within) := ⟨rfl, rfl, rfl, by decide +kernel, rfl, by decide +kernel, by decide +kernel⟩
theorem sc_is_pair : FnScope ["thing"] ["thing"] (defScope s_is_pair) := ⟨rfl, rfl, rfl, by decide +kernel, rfl, by decide +kernel, by decide +kernel⟩
theorem sc_is_change : FnScope ["thing"] ["thing"] (defScope s_is_change) := ⟨rfl, rfl, rfl, by decide +kernel, rfl, by decide +kernel, by decide +kernel⟩
theorem sc_are_changes : FnScope ["thing", "one"] ["thing"] (defScope s_are_changes) := ⟨rfl, rfl, rfl, by decide +kernel, rfl, by decide +kernel, by decide +kernel⟩
theorem sc_is_entry : FnScope ["thing"] ["thing"] (defScope s_is_entry) := ⟨rfl, rfl, rfl, by decide +kernel, rfl, by decide +kernel, by decide +kernel⟩
theorem sc_is_log : FnScope ["thing", "entry"] ["thing"] (defScope s_is_log) := ⟨rfl, rfl, rfl, by decide +kernel, rfl, by decide +kernel, by decide +kernel⟩
theorem sc__law_bag : FnScope ["script", "k", "cell"] ["script", "k"] (defScope s__law_bag) := ⟨rfl, rfl, rfl, by decide +kernel, rfl, by decide +kernel, by decide +kernel⟩
theorem sc__law_take : FnScope ["bag", "many", "found"] ["bag", "many"] (defScope s__law_take) := ⟨rfl, rfl, rfl, by decide +kernel, rfl, by decide +kernel, by decide +kernel⟩
theorem sc__law_of : FnScope ["bag", "some"] ["bag", "some"] (defScope s__law_of) := ⟨rfl, rfl, rfl, by decide +kernel, rfl, by decide +kernel, by decide +kernel⟩
theorem sc__law_whole : FnScope ["thing"] ["thing"] (defScope s__law_whole) := ⟨rfl, rfl, rfl, by decide +kernel, rfl, by decide +kernel, by decide +kernel⟩
theorem sc__law_within : FnScope ["thing", "least", "most"] ["thing", "least", "most"] (defScope s__law_within) := ⟨rfl, rfl, rfl, by decide +kernel, rfl, by decide +kernel, by decide +kernel⟩
theorem sc__law_odd : FnScope ["bag", "some"] ["bag"] (defScope s__law_odd) := ⟨rfl, rfl, rfl, by decide +kernel, rfl, by decide +kernel, by decide +kernel⟩
theorem sc__law_spoilt : FnScope ["bag", "thing", "way", "rows", "at", "other"] ["bag", "thing"] (defScope s__law_spoilt) := ⟨rfl, rfl, rfl, by decide +kernel, rfl, by decide +kernel, by decide +kernel⟩
theorem sc__law_keys : FnScope ["bag", "step", "first", "at"] ["bag"] (defScope s__law_keys) := ⟨rfl, rfl, rfl, by decide +kernel, rfl, by decide +kernel, by decide +kernel⟩
theorem sc__law_changes : FnScope ["bag", "keys", "most", "found", "turn", "key"] ["bag", "keys", "most"] (defScope s__law_changes) := ⟨rfl, rfl, rfl, by decide +kernel, rfl, by decide +kernel, by decide +kernel⟩
theorem sc__law_entry : FnScope ["bag", "keys"] ["bag", "keys"] (defScope s__law_entry) := ⟨rfl, rfl, rfl, by decide +kernel, rfl, by decide +kernel, by decide +kernel⟩
theorem sc__law_log : FnScope ["bag", "keys", "most", "turn"] ["bag", "keys", "most"] (defScope s__law_log) := ⟨rfl, rfl, rfl, by decide +kernel, rfl, by decide +kernel, by decide +kernel⟩
theorem sc__law_is_change : FnScope ["thing"] ["thing"] (defScope s__law_is_change) := ⟨rfl, rfl, rfl, by decide +kernel, rfl, by decide +kernel, by decide +kernel⟩
theorem sc__law_are_changes : FnScope ["thing", "change"] ["thing"] (defScope s__law_are_changes) := ⟨rfl, rfl, rfl, by decide +kernel, rfl, by decide +kernel, by decide +kernel⟩
theorem sc__law_is_entry : FnScope ["thing"] ["thing"] (defScope s__law_is_entry) := ⟨rfl, rfl, rfl, by decide +kernel, rfl, by decide +kernel, by decide +kernel⟩
theorem sc__law_is_log : FnScope ["thing", "entry"] ["thing"] (defScope s__law_is_log) := ⟨rfl, rfl, rfl, by decide +kernel, rfl, by decide +kernel, by decide +kernel⟩
theorem sc_law : FnScope ["script", "k", "bag", "keys", "thing", "entry", "long", "turn", "some", "one", "found"] ["script"] (defScope s_law) := ⟨rfl, rfl, rfl, by decide +kernel, rfl, by decide +kernel, by decide +kernel⟩
structure Txt (K : PySem.W.Frag) (mg : Str → Option Value) where
  f_is_whole : Addr
  fd_is_whole : FuncData
  F_is_whole : Fun K "is_whole" "is_whole" s_is_whole f_is_whole fd_is_whole
  b_is_whole : Binds K fd_is_whole ["thing"] []
  g_is_whole : mg "is_whole" = some (.ref f_is_whole)
  f_is_within : Addr
  fd_is_within : FuncData
  F_is_within : Fun K "is_within" "is_within" s_is_within f_is_within fd_is_within
  b_is_within : Binds K fd_is_within ["thing", "least", "most"] []
  g_is_within : mg "is_within" = some (.ref f_is_within)
  f_is_pair : Addr
  fd_is_pair : FuncData
  F_is_pair : Fun K "is_pair" "is_pair" s_is_pair f_is_pair fd_is_pair
  b_is_pair : Binds K fd_is_pair ["thing"] []
  g_is_pair : mg "is_pair" = some (.ref f_is_pair)
  f_is_change : Addr
  fd_is_change : FuncData
  F_is_change : Fun K "is_change" "is_change" s_is_change f_is_change fd_is_change
  b_is_change : Binds K fd_is_change ["thing"] []
  g_is_change : mg "is_change" = some (.ref f_is_change)
  f_are_changes : Addr
  fd_are_changes : FuncData
  F_are_changes : Fun K "are_changes" "are_changes" s_are_changes f_are_changes fd_are_changes
  b_are_changes : Binds K fd_are_changes ["thing"] []
  g_are_changes : mg "are_changes" = some (.ref f_are_changes)
  f_is_entry : Addr
  fd_is_entry : FuncData
  F_is_entry : Fun K "is_entry" "is_entry" s_is_entry f_is_entry fd_is_entry
  b_is_entry : Binds K fd_is_entry ["thing"] []
  g_is_entry : mg "is_entry" = some (.ref f_is_entry)
  f_is_log : Addr
  fd_is_log : FuncData
  F_is_log : Fun K "is_log" "is_log" s_is_log f_is_log fd_is_log
  b_is_log : Binds K fd_is_log ["thing"] []
  g_is_log : mg "is_log" = some (.ref f_is_log)
  f__law_bag : Addr
  fd__law_bag : FuncData
  F__law_bag : Fun K "_law_bag" "_law_bag" s__law_bag f__law_bag fd__law_bag
  b__law_bag : Binds K fd__law_bag ["script", "k"] []
  g__law_bag : mg "_law_bag" = some (.ref f__law_bag)
  f__law_take : Addr
  fd__law_take : FuncData
  F__law_take : Fun K "_law_take" "_law_take" s__law_take f__law_take fd__law_take
  b__law_take : Binds K fd__law_take ["bag", "many"] []
  g__law_take : mg "_law_take" = some (.ref f__law_take)
  f__law_of : Addr
  fd__law_of : FuncData
  F__law_of : Fun K "_law_of" "_law_of" s__law_of f__law_of fd__law_of
  b__law_of : Binds K fd__law_of ["bag", "some"] []
  g__law_of : mg "_law_of" = some (.ref f__law_of)
  f__law_whole : Addr
  fd__law_whole : FuncData
  F__law_whole : Fun K "_law_whole" "_law_whole" s__law_whole f__law_whole fd__law_whole
  b__law_whole : Binds K fd__law_whole ["thing"] []
  g__law_whole : mg "_law_whole" = some (.ref f__law_whole)
  f__law_within : Addr
  fd__law_within : FuncData
  F__law_within : Fun K "_law_within" "_law_within" s__law_within f__law_within fd__law_within
  b__law_within : Binds K fd__law_within ["thing", "least", "most"] []
  g__law_within : mg "_law_within" = some (.ref f__law_within)
  f__law_odd : Addr
  fd__law_odd : FuncData
  F__law_odd : Fun K "_law_odd" "_law_odd" s__law_odd f__law_odd fd__law_odd
  b__law_odd : Binds K fd__law_odd ["bag"] []
  g__law_odd : mg "_law_odd" = some (.ref f__law_odd)
  f__law_spoilt : Addr
  fd__law_spoilt : FuncData
  F__law_spoilt : Fun K "_law_spoilt" "_law_spoilt" s__law_spoilt f__law_spoilt fd__law_spoilt
  b__law_spoilt : Binds K fd__law_spoilt ["bag", "thing"] []
  g__law_spoilt : mg "_law_spoilt" = some (.ref f__law_spoilt)
  f__law_keys : Addr
  fd__law_keys : FuncData
  F__law_keys : Fun K "_law_keys" "_law_keys" s__law_keys f__law_keys fd__law_keys
  b__law_keys : Binds K fd__law_keys ["bag"] []
  g__law_keys : mg "_law_keys" = some (.ref f__law_keys)
  f__law_changes : Addr
  fd__law_changes : FuncData
  F__law_changes : Fun K "_law_changes" "_law_changes" s__law_changes f__law_changes fd__law_changes
  b__law_changes : Binds K fd__law_changes ["bag", "keys", "most"] []
  g__law_changes : mg "_law_changes" = some (.ref f__law_changes)
  f__law_entry : Addr
  fd__law_entry : FuncData
  F__law_entry : Fun K "_law_entry" "_law_entry" s__law_entry f__law_entry fd__law_entry
  b__law_entry : Binds K fd__law_entry ["bag", "keys"] []
  g__law_entry : mg "_law_entry" = some (.ref f__law_entry)
  f__law_log : Addr
  fd__law_log : FuncData
  F__law_log : Fun K "_law_log" "_law_log" s__law_log f__law_log fd__law_log
  b__law_log : Binds K fd__law_log ["bag", "keys", "most"] []
  g__law_log : mg "_law_log" = some (.ref f__law_log)
  f__law_is_change : Addr
  fd__law_is_change : FuncData
  F__law_is_change : Fun K "_law_is_change" "_law_is_change" s__law_is_change f__law_is_change fd__law_is_change
  b__law_is_change : Binds K fd__law_is_change ["thing"] []
  g__law_is_change : mg "_law_is_change" = some (.ref f__law_is_change)
  f__law_are_changes : Addr
  fd__law_are_changes : FuncData
  F__law_are_changes : Fun K "_law_are_changes" "_law_are_changes" s__law_are_changes f__law_are_changes fd__law_are_changes
  b__law_are_changes : Binds K fd__law_are_changes ["thing"] []
  g__law_are_changes : mg "_law_are_changes" = some (.ref f__law_are_changes)
  f__law_is_entry : Addr
  fd__law_is_entry : FuncData
  F__law_is_entry : Fun K "_law_is_entry" "_law_is_entry" s__law_is_entry f__law_is_entry fd__law_is_entry
  b__law_is_entry : Binds K fd__law_is_entry ["thing"] []
  g__law_is_entry : mg "_law_is_entry" = some (.ref f__law_is_entry)
  f__law_is_log : Addr
  fd__law_is_log : FuncData
  F__law_is_log : Fun K "_law_is_log" "_law_is_log" s__law_is_log f__law_is_log fd__law_is_log
  b__law_is_log : Binds K fd__law_is_log ["thing"] []
  g__law_is_log : mg "_law_is_log" = some (.ref f__law_is_log)
  f_law : Addr
  fd_law : FuncData
  F_law : Fun K "law" "law" s_law f_law fd_law
  b_law : Binds K fd_law ["script"] []
  g_law : mg "law" = some (.ref f_law)
  t_KEYS : Tok
  k_KEYS : mg "KEYS" = some (.int 1000 t_KEYS)
  t_MOST_WORTH : Tok
  k_MOST_WORTH : mg "MOST_WORTH" = some (.int 999 t_MOST_WORTH)
  t_MOST_CHANGES : Tok
  k_MOST_CHANGES : mg "MOST_CHANGES" = some (.int 6 t_MOST_CHANGES)
  t_MOST_LOG : Tok
  k_MOST_LOG : mg "MOST_LOG" = some (.int 400 t_MOST_LOG)
  z_isinstance : mg "isinstance" = none
  z_int : mg "int" = none
  z_bool : mg "bool" = none
  z_tuple : mg "tuple" = none
  z_len : mg "len" = none
  z_str : mg "str" = none
  z_all : mg "all" = none
  z_list : mg "list" = none
  z_abs : mg "abs" = none
  z_sorted : mg "sorted" = none
  z_set : mg "set" = none
  z_range : mg "range" = none
  z_min : mg "min" = none
section
variable {P : Program} {w : World} {K : PySem.W.Frag} {mg : Str → Option Value} {base : Heap}
theorem ok_is_whole (T : Txt K mg) : FnOk P w K mg base CX0 1 T.f_is_whole T.fd_is_whole ["thing"] (spLook0 K wholeD) := by
  refine T.F_is_whole.ok sc_is_whole (fun vs H Q E h => ?_) (fun cdv A outer s H vs Q E hr h => ?_)
  · obtain ⟨v, d, rfl, _⟩ := h
    rfl
  · obtain ⟨v, d, rfl, hd, q⟩ := h
    refine ⟨_, (pss_one (ps_ret (pe_andG (pe_callB (isiK (K := K)) (by rfl) T.z_isinstance Tc.boot_isinstance (pa_cons (pn 0) (pa_cons (pe_bltn (v := .ty "int") (by rfl) T.z_int Tc.boot_int rfl) pa_nil))) (pe_one (pe_notG (pe_callB (isiK (K := K)) (by rfl) T.z_isinstance Tc.boot_isinstance (pa_cons (pn 0) (pa_cons (pe_bltn (v := .ty "bool") (by rfl) T.z_bool Tc.boot_bool rfl) pa_nil)))))))), ?_⟩
    rw [← isD_int] at q
    refine ⟨d, .int, hd, rfl, ite2 (fun e => ?_) (fun e => ?_)⟩
    · rw [e] at q
      exact ⟨d, .bool, hd, rfl, q⟩
    · rw [Bool.eq_false_iff.mpr e] at q
      exact q
theorem ok_is_within (T : Txt K mg) : FnOk P w K mg base CX0 2 T.f_is_within T.fd_is_within ["thing", "least", "most"] (spWithin K) := by
  refine T.F_is_within.ok sc_is_within (fun vs H Q E h => ?_) (fun cdv A outer s H vs Q E hr h => ?_)
  · obtain ⟨v, d, lo, hi, rfl, _⟩ := h
    rfl
  · obtain ⟨v, d, lo, hi, rfl, hd, q⟩ := h
    refine ⟨_, (pss_one (ps_ret (pe_andG (pe_call (ok_is_whole T) hr (by rfl) T.g_is_whole T.F_is_whole.kp T.b_is_whole .nil pass0 (pa_cons (pn 0) pa_nil)) (pe_one (pe_chainG op_leG op_leG (pn 1) (pn 0) (pn 2)))))), ?_⟩
    refine ⟨v, d, rfl, hd, ite2 (fun e => ?_) (fun e => ?_)⟩
    · obtain ⟨i, rfl⟩ := wholeD_int e
      cases hd
      refine ite2 (fun e1 => ?_) (fun e1 => ?_)
      · show Q (.bl (decide (i ≤ hi))) H
        have z : withinD (.int i) lo hi = decide (i ≤ hi) := by show (decide (lo ≤ i) && decide (i ≤ hi)) = _; rw [e1, Bool.true_and]
        rw [← z]; exact q
      · show Q (.bl false) H
        have z : withinD (.int i) lo hi = false := by show (decide (lo ≤ i) && decide (i ≤ hi)) = _; rw [Bool.eq_false_iff.mpr e1, Bool.false_and]
        rw [← z]; exact q
    · rw [wholeD_not (Bool.eq_false_iff.mpr e)] at q
      exact q
theorem ok_is_pair (T : Txt K mg) : FnOk P w K mg base CX0 3 T.f_is_pair T.fd_is_pair ["thing"] (spLook0 K okPair) := by
  refine T.F_is_pair.ok sc_is_pair (fun vs H Q E h => ?_) (fun cdv A outer s H vs Q E hr h => ?_)
  · obtain ⟨v, d, rfl, _⟩ := h
    rfl
  · obtain ⟨v, d, rfl, hd, q⟩ := h
    refine ⟨_, (pss_cons (ps_if (PW.pt (pw_or (pt_not (truK (K := K) (pe_callB (isiK (K := K)) (by rfl) T.z_isinstance Tc.boot_isinstance (pa_cons (pn 0) (pa_cons (pe_bltn (v := .ty "tuple") (by rfl) T.z_tuple Tc.boot_tuple rfl) pa_nil))))) (pw_or1 (pt_cmpG (neK (K := K) hr.units) (pe_callB (lenK (K := K)) (by rfl) T.z_len Tc.boot_len (pa_cons (pn 0) pa_nil)) pe_int (nomark _)))))
      (pss_one (ps_ret pe_bl))
      pss_nil)
      (pss_one (ps_ret (pe_andG (pe_call (ok_is_within T) hr (by rfl) T.g_is_within T.F_is_within.kp T.b_is_within .nil pass0 (pa_cons (pe_ix (ixK (K := K)) (pn 0) pe_int (fun _ _ => rfl)) (pa_cons pe_int (pa_cons (pe_op op_subG (pe_glob (v := .int 1000) (by rfl) T.k_KEYS ⟨_, rfl⟩) pe_int) pa_nil)))) (pe_one (pe_call (ok_is_within T) hr (by rfl) T.g_is_within T.F_is_within.kp T.b_is_within .nil pass0 (pa_cons (pe_ix (ixK (K := K)) (pn 0) pe_int (fun _ _ => rfl)) (pa_cons pe_int (pa_cons (pe_glob (v := .int 999) (by rfl) T.k_MOST_WORTH ⟨_, rfl⟩) pa_nil))))))))), ?_⟩
    have hd' := hd
    cases hd with
    | @tup a xs ds hs ha =>
      refine ⟨_, .tuple, hd', rfl, ⟨xs, .inr hs, ite2 (fun e => ?_) (fun e => ?_)⟩⟩
      · have n : ds.length ≠ 2 := by
          rw [← ha.length]
          intro z
          rw [z] at e
          exact absurd e (by decide)
        rw [okPair_two n] at q
        exact q
      · have n : xs.length = 2 := by
          have e := Bool.eq_false_iff.mpr e
          have e : (!decide ((xs.length : Int) = 2)) = false := e
          rw [Bool.not_eq_false', decide_eq_true_eq] at e
          omega
        obtain ⟨x1, x2, d1, d2, rfl, rfl, h1, h2⟩ := ha.two n
        · refine ⟨[x1, x2], x1, .inr hs, rfl, x1, d1, _, _, rfl, h1, ?_⟩
          have z : okPair (.tuple [d1, d2]) = (withinD d1 0 999 && withinD d2 0 999) := rfl
          rw [z] at q
          refine ite2 (fun e => ?_) (fun e => ?_)
          · have e : withinD d1 0 999 = true := e
            rw [e] at q
            exact ⟨[x1, x2], x2, .inr hs, rfl, x2, d2, _, _, rfl, h2, q⟩
          · have e : withinD d1 0 999 = false := Bool.eq_false_iff.mpr e
            rw [e] at q
            exact q
    | _ => exact ⟨_, .tuple, hd', rfl, q⟩

end

section
variable {P : Program} {w : World} {K : PySem.W.Frag} {mg : Str → Option Value} {base : Heap}
theorem ok__law_within (T : Txt K mg) : FnOk P w K mg base CX0 1 T.f__law_within T.fd__law_within ["thing", "least", "most"] (spWithin K) := by
  refine T.F__law_within.ok sc__law_within (fun vs H Q E h => ?_) (fun cdv A outer s H vs Q E hr h => ?_)
  · obtain ⟨v, d, lo, hi, rfl, _⟩ := h
    rfl
  · obtain ⟨v, d, lo, hi, rfl, hd, q⟩ := h
    refine ⟨_, (pss_one (ps_ret (pe_andG (pe_callB (isiK (K := K)) (by rfl) T.z_isinstance Tc.boot_isinstance (pa_cons (pn 0) (pa_cons (pe_bltn (v := .ty "int") (by rfl) T.z_int Tc.boot_int rfl) pa_nil))) (pe_andG (pe_notG (pe_callB (isiK (K := K)) (by rfl) T.z_isinstance Tc.boot_isinstance (pa_cons (pn 0) (pa_cons (pe_bltn (v := .ty "bool") (by rfl) T.z_bool Tc.boot_bool rfl) pa_nil)))) (pe_one (pe_chainG op_leG op_leG (pn 1) (pn 0) (pn 2))))))), ?_⟩
    have hd' := hd
    cases hd with
    | int i =>
      refine ⟨_, .int, hd', rfl, ?_⟩
      refine ⟨_, .bool, hd', rfl, ?_⟩
      refine ite2 (fun e1 => ?_) (fun e1 => ?_)
      · show Q (.bl (decide (i ≤ hi))) H
        have z : withinD (.int i) lo hi = decide (i ≤ hi) := by show (decide (lo ≤ i) && decide (i ≤ hi)) = _; rw [e1, Bool.true_and]
        rw [← z]; exact q
      · show Q (.bl false) H
        have z : withinD (.int i) lo hi = false := by show (decide (lo ≤ i) && decide (i ≤ hi)) = _; rw [Bool.eq_false_iff.mpr e1, Bool.false_and]
        rw [← z]; exact q
    | bl b => exact ⟨_, .int, hd', rfl, ⟨_, .bool, hd', rfl, q⟩⟩
    | _ => exact ⟨_, .int, hd', rfl, q⟩

end

section
variable {P : Program} {w : World} {K : PySem.W.Frag} {mg : Str → Option Value} {base : Heap}
theorem ok__law_take (T : Txt K mg) : FnOk P w K mg base CX0 1 T.f__law_take T.fd__law_take ["bag", "many"] spTake := by
  refine T.F__law_take.ok sc__law_take (fun vs H Q E h => ?_) (fun cdv A outer s H vs Q E hr h => ?_)
  · obtain ⟨b, m, rfl, _⟩ := h
    rfl
  · obtain ⟨b, m, rfl, ⟨x, y, hb, y0, y1⟩, m0, m1, q⟩ := h
    have line : (2 : Nat) ≤ sizeLine := by rw [sizeLine_eq]; decide
    refine ⟨_, (pss_cons (ps_if (pt_cmpG op_gtG (pe_ix (ixK (K := K)) (pn 0) pe_int (fun _ _ => rfl)) pe_int (nomark _))
      (pss_cons (ps_set (i := 2) sc__law_take.nd rfl (Or.inl rfl) (pe_op op_modG (pe_ix (ixK (K := K)) (pn 0) pe_int (fun _ _ => rfl)) (pn 1)))
      (pss_cons (ps_asg (pe_op op_fdivG (pe_ix (ixK (K := K)) (pn 0) pe_int (fun _ _ => rfl)) (pn 1)) (pg_sub (pn 0) pe_int set_list))
      (pss_one (ps_ret (pn 2)))))
      pss_nil)
      (pss_cons (ps_asg (pe_op op_modG (pe_op op_mulG (pe_ix (ixK (K := K)) (pn 0) pe_int (fun _ _ => rfl)) pe_int) pe_int) (pg_sub (pn 0) pe_int set_list))
      (pss_one (ps_ret (pe_op op_modG (pe_op op_fdivG (pe_op op_modG (pe_op op_mulG (pe_ix (ixK (K := K)) (pn 0) pe_int (fun _ _ => rfl)) (pe_ix (ixK (K := K)) (pn 0) pe_int (fun _ _ => rfl))) pe_int) pe_int) (pn 1)))))), ?_⟩
    have hm : m.natAbs < 2 ^ 200 := by omega
    have hd : CDivW x m := wide_div m0 hm (by decide) (by decide)
    have done : ∀ (r x' y' : Int), 0 ≤ r → r < m → 0 ≤ y' → y' < 4294967296 → Q (.int r) (upd H b (.lst [.int x', .int y'])) := fun r x' y' h1 h2 h3 h4 =>
      q r _ h1 h2 ⟨⟨x', y', upd_same, h3, h4⟩, fun a o na e => by rw [upd_ne na]; exact e⟩
    refine ⟨_, _, .inl (SqL.of hb), rfl, ite2 (fun e => ?_) (fun e => ?_)⟩
    · refine ⟨_, _, .inl (SqL.of hb), rfl, m0, ?_⟩
      refine ⟨_, _, .inl (SqL.of hb), rfl, hd, ?_⟩
      refine ⟨b, _, _, 0, rfl, rfl, hb, rfl, ?_⟩
      exact done _ _ _ (Int.emod_nonneg _ (by omega)) (Int.emod_lt_of_pos _ m0) y0 y1
    · have c1 : CMulW y 48271 := wide_mul (a := 40) (b := 40) (by omega) (by decide) (by decide) (by decide) (by decide)
      refine ⟨_, _, .inl (SqL.of hb), rfl, c1, by show (0 : Int) < 2147483647; decide, ?_⟩
      refine ⟨b, _, _, 1, rfl, rfl, hb, rfl, ?_⟩
      have y2 := Int.emod_nonneg (y * 48271) (show (2147483647 : Int) ≠ 0 by decide)
      have y3 := Int.emod_lt_of_pos (y * 48271) (show (0 : Int) < 2147483647 by decide)
      have c2 : CMulW (y * 48271 % 2147483647) (y * 48271 % 2147483647) := wide_mul (a := 40) (b := 40) (by omega) (by omega) (by decide) (by decide) (by decide)
      refine ⟨_, _, .inl (SqL.of upd_same), rfl, _, _, .inl (SqL.of upd_same), rfl, c2, by show (0 : Int) < 2147483629; decide, ?_⟩
      refine ⟨wide_div (b := 10) (by decide) (by decide) (by decide) (by decide), m0, ?_⟩
      refine q _ _ (Int.emod_nonneg _ (by omega)) (Int.emod_lt_of_pos _ m0) ⟨⟨x, y * 48271 % 2147483647, upd_same, y2, by omega⟩, fun a o na e => by rw [upd_ne na]; exact e⟩
theorem ok__law_bag (T : Txt K mg) : FnOk P w K mg base CX0 1 T.f__law_bag T.fd__law_bag ["script", "k"] (spBag K) := by
  refine T.F__law_bag.ok sc__law_bag (fun vs H Q E h => ?_) (fun cdv A outer s H vs Q E hr h => ?_)
  · obtain ⟨a, ns, k, rfl, _⟩ := h
    rfl
  · obtain ⟨a, ns, k, rfl, hs, k0, k1, q⟩ := h
    have line : (2 : Nat) ≤ sizeLine := by rw [sizeLine_eq]; decide
    refine ⟨_, (pss_cons (ps_set (i := 2) sc__law_bag.nd rfl (Or.inl rfl) pe_int)
      (pss_cons (ps_if (pt_cmpG op_ltG (pn 1) (pe_callB (lenK (K := K)) (by rfl) T.z_len Tc.boot_len (pa_cons (pn 0) pa_nil)) (nomark _))
      (pss_one (ps_set (i := 2) sc__law_bag.nd rfl (Or.inl rfl) (pe_callB call_absG (by rfl) T.z_abs Tc.boot_abs (pa_cons (pe_ix (ixK (K := K)) (pn 0) (pn 1) (fun _ _ => rfl)) pa_nil))))
      pss_nil)
      (pss_cons (ps_if (pt_cmpG op_ltG (pn 2) (pe_op op_powG pe_int pe_int) (nomark _))
      (pss_one (ps_ret (pe_lst (pa_cons pe_int (pa_cons (pe_op (addK (K := K)) pe_int (pe_op op_modG (pe_op (addK (K := K)) (pe_op op_mulG (pn 2) pe_int) (pe_op op_mulG pe_int (pn 1))) pe_int)) pa_nil)))))
      pss_nil)
      (pss_one (ps_ret (pe_lst (pa_cons (pn 2) (pa_cons (pe_op (addK (K := K)) pe_int (pe_op op_modG (pe_op (addK (K := K)) (pn 2) (pn 1)) pe_int)) pa_nil)))))))), ?_⟩
    have fin : ∀ (cell : Int) (σ : L2.St), 0 ≤ cell → σ = [some (.ref a), some (.int k), some (.int cell)] → tSeq (tIfS (tTestG (tOp (rII0 fun i j => .bl (decide (i < j))) (tV 2) (tOp (rII CPow fun i j => .int (i ^ j.toNat)) (tC (.int 10)) (tC (.int 18)))))
        (tRet (tLst (tCons (tC (.int 0)) (tCons (tOp (rAddG K) (tC (.int 1)) (tOp (rII (fun _ j => 0 < j) fun i j => .int (i % j)) (tOp (rAddG K) (tOp (rII CMulW fun i j => .int (i * j)) (tV 2) (tC (.int 7919))) (tOp (rII CMulW fun i j => .int (i * j)) (tC (.int 104729)) (tV 1))) (tC (.int 2147483646)))) tNil)))) tNext)
        (tRet (tLst (tCons (tV 2) (tCons (tOp (rAddG K) (tC (.int 1)) (tOp (rII (fun _ j => 0 < j) fun i j => .int (i % j)) (tOp (rAddG K) (tV 2) (tV 1)) (tC (.int 2147483646)))) tNil)))) { nx := fun _ H' => Q .non H', rt := Q } σ H := fun cell σ c0 es => by
      subst es
      refine ⟨⟨by decide, by decide, by decide⟩, ite2 (fun e => ?_) (fun e => ?_)⟩
      · have lt : cell < 10 ^ 18 := of_decide_eq_true e
        have c1 : CMulW cell 7919 := wide_mul (a := 70) (b := 40) (by omega) (by decide) (by decide) (by decide) (by decide)
        have c2 : CMulW 104729 k := wide_mul (a := 40) (b := 40) (by decide) (by omega) (by decide) (by decide) (by decide)
        refine ⟨c1, c2, by show (0 : Int) < 2147483646; decide, line, fun b hb => ?_⟩
        have z1 := Int.emod_nonneg (cell * 7919 + 104729 * k) (show (2147483646 : Int) ≠ 0 by decide)
        have z2 := Int.emod_lt_of_pos (cell * 7919 + 104729 * k) (show (0 : Int) < 2147483646 by decide)
        exact q b 0 _ hb (by omega) (by omega)
      · refine ⟨by show (0 : Int) < 2147483646; decide, line, fun b hb => ?_⟩
        have z1 := Int.emod_nonneg (cell + k) (show (2147483646 : Int) ≠ 0 by decide)
        have z2 := Int.emod_lt_of_pos (cell + k) (show (0 : Int) < 2147483646 by decide)
        exact q b cell _ hb (by omega) (by omega)
    refine ⟨_, .inl hs, ite2 (fun e => ?_) (fun e => ?_)⟩
    · have lt : k < (ns.map V.int).length := of_decide_eq_true e
      rw [List.length_map] at lt
      have hk : k.toNat < ns.length := by omega
      have at1 : atI (ns.map V.int) k = some (.int ns[k.toNat]) := by
        have e1 : (ns.map V.int)[k.toNat]? = some (.int ns[k.toNat]) := by rw [List.getElem?_map, List.getElem?_eq_getElem hk]; rfl
        have e2 := atI_nat e1
        rw [show ((k.toNat : Nat) : Int) = k by omega] at e2
        exact e2
      refine ⟨_, _, .inl hs, at1, ?_⟩
      refine fin _ _ ?_ rfl
      split <;> omega
    · exact fin 0 _ (by omega) rfl

end

section
variable {P : Program} {w : World} {K : PySem.W.Frag} {mg : Str → Option Value} {base : Heap}
theorem ok__law_keys (T : Txt K mg) : FnOk P w K mg base CX0 2 T.f__law_keys T.fd__law_keys ["bag"] spKeys := by
  refine T.F__law_keys.ok sc__law_keys (fun vs H Q E h => ?_) (fun cdv A outer s H vs Q E hr h => ?_)
  · obtain ⟨b, rfl, _⟩ := h
    rfl
  · obtain ⟨b, rfl, hb, q⟩ := h
    have l4 : (4 : Nat) ≤ sizeLine := line_le (by decide)
    have l2 : (2 : Nat) ≤ sizeLine := line_le (by decide)
    refine ⟨_, (pss_cons (ps_set (i := 1) sc__law_keys.nd rfl (Or.inr rfl) (pe_ix (ixK (K := K)) (pe_lst (pa_cons pe_int (pa_cons pe_int (pa_cons pe_int (pa_cons pe_int pa_nil))))) (pe_call (ok__law_take T) hr (by rfl) T.g__law_take T.F__law_take.kp T.b__law_take .nil pass0 (pa_cons (pn 0) (pa_cons pe_int pa_nil))) (fun _ _ => rfl)))
      (pss_cons (ps_set (i := 2) sc__law_keys.nd rfl (Or.inr rfl) (pe_call (ok__law_take T) hr (by rfl) T.g__law_take T.F__law_take.kp T.b__law_take .nil pass0 (pa_cons (pn 0) (pa_cons (pe_op op_subG pe_int (pe_op op_mulG pe_int (pn 1))) pa_nil))))
      (pss_one (ps_ret (pe_callB (sortedK (K := K) (w := w)) (by rfl) T.z_sorted Tc.boot_sorted (pa_cons (pe_callTy (setK (K := K) (w := w)) (by rfl) T.z_set Tc.boot_set (pa_cons (pe_op (addK (K := K)) (pe_lc (own := [("at", 3)]) rfl sc__law_keys.nd (pi_range1 (by rfl) T.z_range (pa_cons pe_int pa_nil)) (blkOk_by (own := [("at", 3)]) (N := ["bag", "step", "first", "at"]) (sc := defScope s__law_keys) (by decide +kernel)) (fun _ _ _ _ _ => by exact (pg_name (i := 3) sc__law_keys.nd rfl (Or.inl rfl))) (fun _ _ _ _ _ => by exact pts_nil) (fun _ _ _ _ _ => by exact (pe_op (addK (K := K)) (pn 2) (pe_op op_mulG (pn 1) (pn 3))))) (pe_lst (pa_cons pe_int (pa_cons pe_int pa_nil)))) pa_nil)) pa_nil)))))), ?_⟩
    refine ⟨l4, fun p0 n0 => ?_⟩
    have g0 : Gr b H (upd H p0 (.lst [.int 1, .int 2, .int 7, .int 90])) := Gr.new hb n0
    have np0 := hb.ne n0
    refine ⟨b, 4, rfl, g0.1, by decide, by decide, fun r H1 r0 r1 g1 => ?_⟩
    have e0 : H1 p0 = some (.lst [.int 1, .int 2, .int 7, .int 90]) := g1.2 _ _ np0 upd_same
    obtain ⟨st, hst, es⟩ := pickI [1, 2, 7, 90] r0 r1
    have st1 : 1 ≤ st ∧ st ≤ 90 := by
      simp only [List.mem_cons, List.not_mem_nil, or_false] at hst
      omega
    refine ⟨_, _, .inl (SqL.of e0), es, ?_⟩
    have c1 : CMulW 9 st := wide_mul (a := 40) (b := 40) (by decide) (by omega) (by decide) (by decide) (by decide)
    refine ⟨c1, b, 1000 - 9 * st, rfl, g1.1, by omega, by omega, fun f H2 f0 f1 g2 => ?_⟩
    have g3 : Gr b H H2 := (g0.trans g1).trans g2
    refine ⟨10, rfl, by decide, by decide, ?_⟩
    refine lc_rng (lo := 0) (n := 10) (fun k D H' => H' = upd H2 D (.lst ((List.range k).map fun i => V.int (f + st * ((i : Nat) : Int))))) (fun D hD => rfl) (fun k D H' lt hD e => ?_) (fun D H' hD e => ?_)
    · subst e
      have c2 : CMulW st (0 + (k : Nat)) := wide_mul (a := 40) (b := 40) (by omega) (by omega) (by decide) (by decide) (by decide)
      refine ⟨rfl, ?_⟩
      refine ⟨c2, _, upd_same, by rw [List.length_map, List.length_range]; exact line_lt (by omega), ?_⟩
      rw [upd_upd, List.range_succ, List.map_append, Int.zero_add]
      rfl
    · subst e
      have nD := g3.1.ne hD
      refine ⟨l2, fun E1 hE => ?_⟩
      have nDE : D ≠ E1 := fun z => by rw [← z, upd_same] at hE; cases hE
      have ms : (List.range 10).map (fun i => V.int (f + st * ((i : Nat) : Int))) ++ [V.int 0, V.int 999] = ((List.range 10).map (fun i => f + st * ((i : Nat) : Int)) ++ [0, 999]).map V.int := by
        rw [List.map_append, List.map_map]; rfl
      refine Or.inl ⟨D, E1, _, _, rfl, rfl, (by rw [upd_ne nDE]; exact upd_same), upd_same, line_le (by rw [List.length_map, List.length_range]; decide), fun C hC => ?_⟩
      rw [ms]
      refine ⟨C, _, rfl, SqL.of upd_same, by rw [List.length_append, List.length_map, List.length_range]; decide, fun S c hc hS => ?_⟩
      refine Or.inr ⟨S, _, _, rfl, upd_same, fun ks p hk hm hl hp => ?_⟩
      have g4 : Gr b H (upd H2 D (.lst ((List.range 10).map fun i => V.int (f + st * ((i : Nat) : Int))))) := g3.trans (Gr.new g3.1 hD)
      have g5 := g4.trans (Gr.new (o := .lst [V.int 0, V.int 999]) g4.1 hE)
      have g6 := g5.trans (Gr.new (o := .lst (((List.range 10).map (fun i => f + st * ((i : Nat) : Int)) ++ [0, 999]).map V.int)) g5.1 hC)
      have g7 := g6.trans (Gr.new (o := SetO w S (fun j => decide (j ∈ (List.range 10).map (fun i => f + st * ((i : Nat) : Int)) ++ [0, 999])) c) g6.1 hS)
      have g8 := g7.trans (Gr.new (o := .lst (ks.map V.int)) g7.1 hp)
      have kk : ∀ k, k ∈ ks ↔ k ∈ (List.range 10).map (fun i => f + st * ((i : Nat) : Int)) ++ [0, 999] := fun k => (hm k).trans decide_eq_true_iff
      refine q p ks _ ⟨hk, fun k hk2 => ?_, ?_, ?_⟩ g8 (g7.free hb hp) (off_mk (g7.1.ne hp) upd_same)
      · have z := (kk k).mp hk2
        rw [List.mem_append] at z
        rcases z with z | z
        · obtain ⟨i, hi, rfl⟩ := List.mem_map.mp z
          have hi := List.mem_range.mp hi
          have h0 : 0 ≤ st * (i : Int) := Int.mul_nonneg (by omega) (by omega)
          have h9 : st * (i : Int) ≤ st * 9 := Int.mul_le_mul_of_nonneg_left (by omega) (by omega)
          have f1 : f < 1000 - 9 * st := f1
          omega
        · simp only [List.mem_cons, List.not_mem_nil, or_false] at z
          omega
      · rw [List.length_append, List.length_map, List.length_range] at hc
        have hc : c ≤ 12 := hc
        omega
      · have z : (0 : Int) ∈ ks := (kk 0).mpr (List.mem_append_right _ List.mem_cons_self)
        exact List.length_pos_of_mem z

end

section
variable {P : Program} {w : World} {K : PySem.W.Frag} {mg : Str → Option Value} {base : Heap}
theorem ok_is_change (T : Txt K mg) : FnOk P w K mg base CX0 4 T.f_is_change T.fd_is_change ["thing"] (spLk K changeD) := by
  refine T.F_is_change.ok sc_is_change (fun vs H Q E h => ?_) (fun cdv A outer s H vs Q E hr h => ?_)
  · obtain ⟨v, d, rfl, _⟩ := h
    rfl
  · obtain ⟨v, d, rfl, hd, _, q⟩ := h
    have l0 : (0 : Nat) ≤ sizeLine := Nat.zero_le _
    refine ⟨_, (pss_cons (ps_if (PW.pt (pw_or (pt_not (truK (K := K) (pe_callB (isiK (K := K)) (by rfl) T.z_isinstance Tc.boot_isinstance (pa_cons (pn 0) (pa_cons (pe_bltn (v := .ty "tuple") (by rfl) T.z_tuple Tc.boot_tuple rfl) pa_nil))))) (pw_or (pt_cmpG (eqK (K := K) hr.units) (pn 0) (pe_tup pa_nil) (nomark _)) (pw_or1 (pt_not (truK (K := K) (pe_callB (isiK (K := K)) (by rfl) T.z_isinstance Tc.boot_isinstance (pa_cons (pe_ix (ixK (K := K)) (pn 0) pe_int (fun _ _ => rfl)) (pa_cons (pe_bltn (v := .ty "str") (by rfl) T.z_str Tc.boot_str rfl) pa_nil)))))))))
      (pss_one (ps_ret pe_bl))
      pss_nil)
      (pss_cons (ps_if (pt_cmpG (eqK (K := K) hr.units) (pe_ix (ixK (K := K)) (pn 0) pe_int (fun _ _ => rfl)) pe_str (nomark _))
      (pss_one (ps_ret (pe_andG (pe_cmpR (eqK (K := K) hr.units) (pe_callB (lenK (K := K)) (by rfl) T.z_len Tc.boot_len (pa_cons (pn 0) pa_nil)) pe_int (nomark _)) (pe_one (pe_call (ok_is_pair T) hr (by rfl) T.g_is_pair T.F_is_pair.kp T.b_is_pair .nil pass0 (pa_cons (pe_slice (slK (K := K)) (pn 0) (po_G pe_int) po_none) pa_nil))))))
      pss_nil)
      (pss_one (ps_ret (pe_andG (pe_cmpR (eqK (K := K) hr.units) (pe_ix (ixK (K := K)) (pn 0) pe_int (fun _ _ => rfl)) pe_str (nomark _)) (pe_andG (pe_cmpR (eqK (K := K) hr.units) (pe_callB (lenK (K := K)) (by rfl) T.z_len Tc.boot_len (pa_cons (pn 0) pa_nil)) pe_int (nomark _)) (pe_one (pe_call (ok_is_within T) (hr.mono (by decide)) (by rfl) T.g_is_within T.F_is_within.kp T.b_is_within .nil pass0 (pa_cons (pe_ix (ixK (K := K)) (pn 0) pe_int (fun _ _ => rfl)) (pa_cons pe_int (pa_cons (pe_op op_subG (pe_glob (v := .int 1000) (by rfl) T.k_KEYS ⟨_, rfl⟩) pe_int) pa_nil))))))))))), ?_⟩
    have hd' := hd
    cases hd with
    | @tup a xs ds hs ha =>
      refine ⟨_, .tuple, hd', rfl, l0, fun e0 he => ?_⟩
      have s1 := same_upd (o := .tup []) he
      refine ⟨.tuple ds, .tuple [], (DV.same s1 hd').dp, .tup (.inl (.inl upd_same)) .nil, .inr (by show 0 + 1 ≤ 60; omega), ?_⟩
      rw [eqv_unit]
      cases ha with
      | nil => exact q _ s1
      | @cons x0 xs d0 ds h0 ha =>
        refine ⟨_, x0, .inr (same_tup s1 hs), at0, d0, .str, DV.same s1 h0, rfl, ?_⟩
        cases h0 with
        | str z =>
          refine ⟨_, _, .inr (same_tup s1 hs), at0, ite2 (fun e => ?_) (fun e => ?_)⟩
          · have e : z = "put" := of_decide_eq_true e
            refine ⟨_, .inr (same_tup s1 hs), ite2 (fun n => ?_) (fun n => ?_)⟩
            · have n : ((V.str z :: xs).length : Int) = 3 := of_decide_eq_true n
              have n2 : xs.length = 2 := by rw [List.length_cons] at n; omega
              obtain ⟨x, y, d1, d2, rfl, rfl, h1, h2⟩ := ha.two n2
              refine Or.inr ⟨_, same_tup s1 hs, fun w => ?_, fun p hp => ?_⟩
              · rw [cut1] at w
                have := congrArg List.length w
                simp at this
              · rw [cut1]
                have s2 := s1.trans (same_upd (o := .tup (List.drop 1 [.str z, x, y])) hp)
                refine ⟨_, .tuple [d1, d2], rfl, .tup (.inl (.inl upd_same)) (.cons (DV.same s2 h1) (.cons (DV.same s2 h2) .nil)), ?_⟩
                have z1 : changeD (.tuple [.str z, d1, d2]) = okPair (.tuple [d1, d2]) := by
                  show (decide (z = "put") && _) = _
                  rw [dec_true e, Bool.true_and]; rfl
                rw [← z1]
                exact q _ s2
            · have n2 : ds.length ≠ 2 := fun m => n (decide_eq_true (by rw [List.length_cons, ha.length, m]; rfl))
              have z1 : changeD (.tuple (.str z :: ds)) = false := by
                show changeT z ds = false
                match ds, n2 with
                | [], _ => rfl
                | [_], _ =>
                  show (decide (z = "drop") && _) = false
                  rw [e]; rfl
                | [_, _], h => exact absurd rfl h
                | _ :: _ :: _ :: _, _ => rfl
              rw [z1] at q
              exact q _ s1
          · refine ⟨_, _, .inr (same_tup s1 hs), at0, ite2 (fun e2 => ?_) (fun e2 => ?_)⟩
            · have e2 : z = "drop" := of_decide_eq_true e2
              refine ⟨_, .inr (same_tup s1 hs), ite2 (fun n => ?_) (fun n => ?_)⟩
              · have n : ((V.str z :: xs).length : Int) = 2 := of_decide_eq_true n
                have n2 : xs.length = 1 := by rw [List.length_cons] at n; omega
                obtain ⟨x, d1, rfl, rfl, h1⟩ := ha.one n2
                refine ⟨_, x, .inr (same_tup s1 hs), at1, x, d1, _, _, rfl, DV.same s1 h1, ?_⟩
                have z1 : changeD (.tuple [.str z, d1]) = withinD d1 0 999 := by
                  show (decide (z = "drop") && _) = _
                  rw [dec_true e2, Bool.true_and]
                rw [z1] at q
                exact q _ s1
              · have n2 : ds.length ≠ 1 := fun m => n (decide_eq_true (by rw [List.length_cons, ha.length, m]; rfl))
                have z1 : changeD (.tuple (.str z :: ds)) = false := by
                  show changeT z ds = false
                  match ds, n2 with
                  | [], _ => rfl
                  | [_], h => exact absurd rfl h
                  | [_, _], _ =>
                    show (decide (z = "put") && _) = false
                    rw [e2]; rfl
                  | _ :: _ :: _ :: _, _ => rfl
                rw [z1] at q
                exact q _ s1
            · have z1 : changeD (.tuple (.str z :: ds)) = false := by
                show changeT z ds = false
                match ds with
                | [] => rfl
                | [_] =>
                  show (decide (z = "drop") && _) = false
                  rw [Bool.eq_false_iff.mpr e2]; rfl
                | [_, _] =>
                  show (decide (z = "put") && _) = false
                  rw [Bool.eq_false_iff.mpr e]; rfl
                | _ :: _ :: _ :: _ => rfl
              rw [z1] at q
              exact q _ s1
        | _ => exact q _ s1
    | _ => exact ⟨_, .tuple, hd', rfl, q _ (Same.refl H)⟩
theorem ok_are_changes (T : Txt K mg) : FnOk P w K mg base CX0 5 T.f_are_changes T.fd_are_changes ["thing"] (spLk K changesD) := by
  refine T.F_are_changes.ok sc_are_changes (fun vs H Q E h => ?_) (fun cdv A outer s H vs Q E hr h => ?_)
  · obtain ⟨v, d, rfl, _⟩ := h
    rfl
  · obtain ⟨v, d, rfl, hd, _, q⟩ := h
    refine ⟨_, (pss_one (ps_ret (pe_andG (pe_callB (isiK (K := K)) (by rfl) T.z_isinstance Tc.boot_isinstance (pa_cons (pn 0) (pa_cons (pe_bltn (v := .ty "tuple") (by rfl) T.z_tuple Tc.boot_tuple rfl) pa_nil))) (pe_andG (pe_chainG op_leG op_leG pe_int (pe_callB (lenK (K := K)) (by rfl) T.z_len Tc.boot_len (pa_cons (pn 0) pa_nil)) (pe_glob (v := .int 6) (by rfl) T.k_MOST_CHANGES ⟨_, rfl⟩)) (pe_one (pe_callB (allK (K := K)) (by rfl) T.z_all Tc.boot_all (pa_cons (pe_lc (own := [("one", 1)]) rfl sc_are_changes.nd (piK (K := K) (pn 0)) (blkOk_by (own := [("one", 1)]) (N := ["thing", "one"]) (sc := defScope s_are_changes) (by decide +kernel)) (fun _ _ _ _ _ => by exact (pg_name (i := 1) sc_are_changes.nd rfl (Or.inl rfl))) (fun _ _ _ _ _ => by exact pts_nil) (fun _ _ _ _ _ => by exact (pe_call (ok_is_change T) hr (by rfl) T.g_is_change T.F_is_change.kp T.b_is_change .nil pass0 (pa_cons (pn 1) pa_nil)))) pa_nil))))))), ?_⟩
    have hd' := hd
    cases hd with
    | @tup a xs ds hs ha =>
      have len := ha.length
      refine ⟨_, .tuple, hd', rfl, xs, .inr hs, ite2 (fun e => ?_) (fun e => ?_)⟩
      · have e1 : (1 : Int) ≤ (xs.length : Nat) := of_decide_eq_true e
        refine ite2 (fun e => ?_) (fun e => ?_)
        · have e2 : ((xs.length : Nat) : Int) ≤ 6 := of_decide_eq_true e
          refine lc_grow (xs.zip ds) (fun z => .bl (changeD z.2)) (by rw [ha.zip1]; exact .inr hs) (by rw [ha.zipl]; exact line_lt (by omega)) (by intro _; rfl) (fun z H' hz sm Qe qe => ?_) (fun D H' hD sm hL => ?_)
          · exact ⟨z.1, z.2, rfl, DV.same sm (ha.zipd z hz), trivial, qe⟩
          · have eb : (xs.zip ds).map (fun z => V.bl (changeD z.2)) = (ds.map changeD).map V.bl := by rw [List.map_map]; exact ha.zipf (V.bl ∘ changeD)
            rw [eb] at hL
            refine ⟨D, ds.map changeD, rfl, SqL.of hL, ?_⟩
            have z : changesD (.tuple ds) = (ds.map changeD).all id := by
              show (decide (1 ≤ ds.length) && (decide (ds.length ≤ 6) && ds.all changeD)) = _
              rw [dec_true (by omega), dec_true (by omega), List.all_map]; rfl
            rw [← z]
            exact q _ sm
        · have z : changesD (.tuple ds) = false := by
            show (decide (1 ≤ ds.length) && (decide (ds.length ≤ 6) && ds.all changeD)) = _
            rw [decide_eq_false (p := ds.length ≤ 6) (fun m => e (decide_eq_true (by omega)))]
            cases decide (1 ≤ ds.length) <;> rfl
          rw [z] at q
          exact q _ (Same.refl H)
      · have z : changesD (.tuple ds) = false := by
          show (decide (1 ≤ ds.length) && (decide (ds.length ≤ 6) && ds.all changeD)) = _
          rw [decide_eq_false (p := 1 ≤ ds.length) (fun m => e (decide_eq_true (by omega)))]
          rfl
        rw [z] at q
        exact q _ (Same.refl H)
    | _ => exact ⟨_, .tuple, hd', rfl, q _ (Same.refl H)⟩

end

section
variable {P : Program} {w : World} {K : PySem.W.Frag} {mg : Str → Option Value} {base : Heap}
theorem ok_is_entry (T : Txt K mg) : FnOk P w K mg base CX0 6 T.f_is_entry T.fd_is_entry ["thing"] (spLk K entryD) := by
  refine T.F_is_entry.ok sc_is_entry (fun vs H Q E h => ?_) (fun cdv A outer s H vs Q E hr h => ?_)
  · obtain ⟨v, d, rfl, _⟩ := h
    rfl
  · obtain ⟨v, d, rfl, hd, _, q⟩ := h
    have l0 : (0 : Nat) ≤ sizeLine := Nat.zero_le _
    have l2 : (2 : Nat) ≤ sizeLine := line_le (by decide)
    refine ⟨_, (pss_cons (ps_if (PW.pt (pw_or (pt_not (truK (K := K) (pe_callB (isiK (K := K)) (by rfl) T.z_isinstance Tc.boot_isinstance (pa_cons (pn 0) (pa_cons (pe_bltn (v := .ty "tuple") (by rfl) T.z_tuple Tc.boot_tuple rfl) pa_nil))))) (pw_or (pt_cmpG (eqK (K := K) hr.units) (pn 0) (pe_tup pa_nil) (nomark _)) (pw_or1 (pt_not (truK (K := K) (pe_callB (isiK (K := K)) (by rfl) T.z_isinstance Tc.boot_isinstance (pa_cons (pe_ix (ixK (K := K)) (pn 0) pe_int (fun _ _ => rfl)) (pa_cons (pe_bltn (v := .ty "str") (by rfl) T.z_str Tc.boot_str rfl) pa_nil)))))))))
      (pss_one (ps_ret pe_bl))
      pss_nil)
      (pss_cons (ps_if (pt_cmpG (eqK (K := K) hr.units) (pe_ix (ixK (K := K)) (pn 0) pe_int (fun _ _ => rfl)) pe_str (nomark _))
      (pss_one (ps_ret (pe_andG (pe_cmpR (eqK (K := K) hr.units) (pe_callB (lenK (K := K)) (by rfl) T.z_len Tc.boot_len (pa_cons (pn 0) pa_nil)) pe_int (nomark _)) (pe_one (pe_call (ok_are_changes T) hr (by rfl) T.g_are_changes T.F_are_changes.kp T.b_are_changes .nil pass0 (pa_cons (pe_ix (ixK (K := K)) (pn 0) pe_int (fun _ _ => rfl)) pa_nil))))))
      pss_nil)
      (pss_cons (ps_if (PW.pt (pw_or (pt_cmpG (notinK (K := K) hr.units) (pe_ix (ixK (K := K)) (pn 0) pe_int (fun _ _ => rfl)) (pe_tup (pa_cons pe_str (pa_cons pe_str pa_nil))) (by rfl)) (pw_or1 (pt_cmpG (neK (K := K) hr.units) (pe_callB (lenK (K := K)) (by rfl) T.z_len Tc.boot_len (pa_cons (pn 0) pa_nil)) pe_int (nomark _)))))
      (pss_one (ps_ret pe_bl))
      pss_nil)
      (pss_one (ps_ret (pe_andG (pe_call (ok_is_whole T) (hr.mono (by decide)) (by rfl) T.g_is_whole T.F_is_whole.kp T.b_is_whole .nil pass0 (pa_cons (pe_ix (ixK (K := K)) (pn 0) pe_int (fun _ _ => rfl)) pa_nil)) (pe_andG (pe_cmpR op_geG (pe_ix (ixK (K := K)) (pn 0) pe_int (fun _ _ => rfl)) pe_int (nomark _)) (pe_andG (pe_call (ok_is_whole T) (hr.mono (by decide)) (by rfl) T.g_is_whole T.F_is_whole.kp T.b_is_whole .nil pass0 (pa_cons (pe_ix (ixK (K := K)) (pn 0) pe_int (fun _ _ => rfl)) pa_nil)) (pe_one (pe_cmpR op_geG (pe_ix (ixK (K := K)) (pn 0) pe_int (fun _ _ => rfl)) pe_int (nomark _))))))))))), ?_⟩
    have hd' := hd
    cases hd with
    | @tup a xs ds hs ha =>
      refine ⟨_, .tuple, hd', rfl, l0, fun e0 he => ?_⟩
      have s1 := same_upd (o := .tup []) he
      refine ⟨.tuple ds, .tuple [], (DV.same s1 hd').dp, .tup (.inl (.inl upd_same)) .nil, .inr (by show 0 + 1 ≤ 60; omega), ?_⟩
      rw [eqv_unit]
      cases ha with
      | nil => exact q _ s1
      | @cons x0 xs d0 ds h0 ha =>
        refine ⟨_, x0, .inr (same_tup s1 hs), at0, d0, .str, DV.same s1 h0, rfl, ?_⟩
        cases h0 with
        | str z =>
          refine ⟨_, _, .inr (same_tup s1 hs), at0, ite2 (fun e => ?_) (fun e => ?_)⟩
          · have e : z = "group" := of_decide_eq_true e
            refine ⟨_, .inr (same_tup s1 hs), ite2 (fun n => ?_) (fun n => ?_)⟩
            · have n : ((V.str z :: xs).length : Int) = 2 := of_decide_eq_true n
              have n2 : xs.length = 1 := by rw [List.length_cons] at n; omega
              obtain ⟨x, d1, rfl, rfl, h1⟩ := ha.one n2
              refine ⟨_, x, .inr (same_tup s1 hs), at1, x, d1, rfl, DV.same s1 h1, trivial, fun H2 sm => ?_⟩
              have z1 : entryD (.tuple [.str z, d1]) = changesD d1 := by
                show (decide (z = "group") && _) = _
                rw [dec_true e, Bool.true_and]
              rw [z1] at q
              exact q _ (s1.trans sm)
            · have n2 : ds.length ≠ 1 := fun m => n (decide_eq_true (by rw [List.length_cons, ha.length, m]; rfl))
              have z1 : entryD (.tuple (.str z :: ds)) = false := by
                show entryT z ds = false
                by_cases m : ds.length = 2
                · match ds, m with
                  | [_, _], _ =>
                    show ((decide (z = "low") || decide (z = "high")) && _) = false
                    rw [e]; rfl
                · exact entry_last n2 m
              rw [z1] at q
              exact q _ s1
          · refine ⟨_, _, .inr (same_tup s1 hs), at0, l2, fun e1 he1 => ?_⟩
            have s2 := s1.trans (same_upd (o := .tup [.str "low", .str "high"]) he1)
            refine ⟨.str z, [.str "low", .str "high"], .str z, .inr (.tup (.inl (.inl upd_same)) (.cons (.str _) (.cons (.str _) .nil))), Nat.zero_le _, ?_⟩
            have eany : ([PyData.str "low", .str "high"].any fun y => PyData.eqv y (.str z)) = (decide (z = "low") || decide (z = "high")) := by
              show (decide (("low" : Str) = z) || (decide (("high" : Str) = z) || false)) = _
              rw [Bool.or_false, decide_eq_decide.mpr (eq_comm (a := ("low" : Str))), decide_eq_decide.mpr (eq_comm (a := ("high" : Str)))]
            rw [eany]
            refine ite2 (fun e2 => ?_) (fun e2 => ?_)
            · have e2 : (decide (z = "low") || decide (z = "high")) = false := by
                cases y : (decide (z = "low") || decide (z = "high")) with
                | false => rfl
                | true => rw [y] at e2; cases e2
              have z1 : entryD (.tuple (.str z :: ds)) = false := by
                show entryT z ds = false
                match ds with
                | [] => rfl
                | [_] =>
                  show (decide (z = "group") && _) = false
                  rw [Bool.eq_false_iff.mpr e]; rfl
                | [_, _] =>
                  show ((decide (z = "low") || decide (z = "high")) && _) = false
                  rw [e2]; rfl
                | _ :: _ :: _ :: _ => rfl
              rw [z1] at q
              exact q _ s2
            · have e2 : (decide (z = "low") || decide (z = "high")) = true := by
                cases y : (decide (z = "low") || decide (z = "high")) with
                | true => rfl
                | false => rw [y] at e2; exact absurd rfl e2
              refine ⟨_, .inr (same_tup s2 hs), ite2 (fun n => ?_) (fun n => ?_)⟩
              · have n2 : ds.length ≠ 2 := fun m => by
                  rw [List.length_cons, ha.length, m] at n
                  cases n
                have z1 : entryD (.tuple (.str z :: ds)) = false := by
                  show entryT z ds = false
                  by_cases m : ds.length = 1
                  · match ds, m with
                    | [_], _ =>
                      show (decide (z = "group") && _) = false
                      rw [Bool.eq_false_iff.mpr e]; rfl
                  · exact entry_last m n2
                rw [z1] at q
                exact q _ s2
              · have n2 : xs.length = 2 := by
                  have n := Bool.eq_false_iff.mpr n
                  have n : (!decide (((V.str z :: xs).length : Int) = 3)) = false := n
                  rw [Bool.not_eq_false', decide_eq_true_eq, List.length_cons] at n
                  omega
                obtain ⟨x, y, d1, d2, rfl, rfl, h1, h2⟩ := ha.two n2
                have z1 : entryD (.tuple [.str z, d1, d2]) = (geD 1 d1 && geD 0 d2) := by
                  show ((decide (z = "low") || decide (z = "high")) && _) = _
                  rw [e2]; rfl
                rw [z1] at q
                refine ⟨_, x, .inr (same_tup s2 hs), at1, x, d1, rfl, DV.same s2 h1, ite2 (fun w1 => ?_) (fun w1 => ?_)⟩
                · obtain ⟨i, rfl, rfl⟩ := int_of_whole h1 w1
                  refine ⟨_, _, .inr (same_tup s2 hs), at1, ite2 (fun c1 => ?_) (fun c1 => ?_)⟩
                  · have c1 : geD 1 (.int i) = true := c1
                    rw [c1, Bool.true_and] at q
                    refine ⟨_, y, .inr (same_tup s2 hs), at2, y, d2, rfl, DV.same s2 h2, ite2 (fun w2 => ?_) (fun w2 => ?_)⟩
                    · obtain ⟨j, rfl, rfl⟩ := int_of_whole h2 w2
                      exact ⟨_, _, .inr (same_tup s2 hs), at2, q _ s2⟩
                    · have w2 := Bool.eq_false_iff.mpr w2
                      rw [geD_not w2] at q
                      exact q _ s2
                  · have c1 : geD 1 (.int i) = false := Bool.eq_false_iff.mpr c1
                    rw [c1] at q
                    have c2 : decide (1 ≤ i) = false := c1
                    exact q _ s2
                · have w1 := Bool.eq_false_iff.mpr w1
                  rw [geD_not w1] at q
                  exact q _ s2
        | _ => exact q _ s1
    | _ => exact ⟨_, .tuple, hd', rfl, q _ (Same.refl H)⟩
theorem ok_is_log (T : Txt K mg) : FnOk P w K mg base CX0 7 T.f_is_log T.fd_is_log ["thing"] (spLk K logD) := by
  refine T.F_is_log.ok sc_is_log (fun vs H Q E h => ?_) (fun cdv A outer s H vs Q E hr h => ?_)
  · obtain ⟨v, d, rfl, _⟩ := h
    rfl
  · obtain ⟨v, d, rfl, hd, _, q⟩ := h
    refine ⟨_, (pss_one (ps_ret (pe_andG (pe_callB (isiK (K := K)) (by rfl) T.z_isinstance Tc.boot_isinstance (pa_cons (pn 0) (pa_cons (pe_bltn (v := .ty "list") (by rfl) T.z_list Tc.boot_list rfl) pa_nil))) (pe_andG (pe_cmpR op_leG (pe_callB (lenK (K := K)) (by rfl) T.z_len Tc.boot_len (pa_cons (pn 0) pa_nil)) (pe_glob (v := .int 400) (by rfl) T.k_MOST_LOG ⟨_, rfl⟩) (nomark _)) (pe_one (pe_callB (allK (K := K)) (by rfl) T.z_all Tc.boot_all (pa_cons (pe_lc (own := [("entry", 1)]) rfl sc_is_log.nd (piK (K := K) (pn 0)) (blkOk_by (own := [("entry", 1)]) (N := ["thing", "entry"]) (sc := defScope s_is_log) (by decide +kernel)) (fun _ _ _ _ _ => by exact (pg_name (i := 1) sc_is_log.nd rfl (Or.inl rfl))) (fun _ _ _ _ _ => by exact pts_nil) (fun _ _ _ _ _ => by exact (pe_call (ok_is_entry T) hr (by rfl) T.g_is_entry T.F_is_entry.kp T.b_is_entry .nil pass0 (pa_cons (pn 1) pa_nil)))) pa_nil))))))), ?_⟩
    have hd' := hd
    cases hd with
    | @lst a xs ds hs ha =>
      have len := ha.length
      have hs := SqL.of (K := K) hs
      refine ⟨_, .list, hd', rfl, xs, .inl hs, ite2 (fun e => ?_) (fun e => ?_)⟩
      · have e2 : ((xs.length : Nat) : Int) ≤ 400 := of_decide_eq_true e
        refine lc_grow (xs.zip ds) (fun z => .bl (entryD z.2)) (by rw [ha.zip1]; exact .inl hs) (by rw [ha.zipl]; exact line_lt (by omega)) (by intro _; rfl) (fun z H' hz sm Qe qe => ?_) (fun D H' hD sm hL => ?_)
        · exact ⟨z.1, z.2, rfl, DV.same sm (ha.zipd z hz), trivial, qe⟩
        · have eb : (xs.zip ds).map (fun z => V.bl (entryD z.2)) = (ds.map entryD).map V.bl := by rw [List.map_map]; exact ha.zipf (V.bl ∘ entryD)
          rw [eb] at hL
          refine ⟨D, ds.map entryD, rfl, SqL.of hL, ?_⟩
          have z : logD (.list ds) = (ds.map entryD).all id := by
            show (decide (ds.length ≤ 400) && ds.all entryD) = _
            rw [dec_true (by omega), List.all_map]; rfl
          rw [← z]
          exact q _ sm
      · have z : logD (.list ds) = false := by
          show (decide (ds.length ≤ 400) && ds.all entryD) = _
          rw [decide_eq_false (p := ds.length ≤ 400) (fun m => e (decide_eq_true (by omega)))]
          rfl
        rw [z] at q
        exact q _ (Same.refl H)
    | _ => exact ⟨_, .list, hd', rfl, q _ (Same.refl H)⟩
theorem ok__law_whole (T : Txt K mg) : FnOk P w K mg base CX0 1 T.f__law_whole T.fd__law_whole ["thing"] (spLook0 K wholeD) := by
  refine T.F__law_whole.ok sc__law_whole (fun vs H Q E h => ?_) (fun cdv A outer s H vs Q E hr h => ?_)
  · obtain ⟨v, d, rfl, _⟩ := h
    rfl
  · obtain ⟨v, d, rfl, hd, q⟩ := h
    refine ⟨_, (pss_one (ps_ret (pe_andG (pe_callB (isiK (K := K)) (by rfl) T.z_isinstance Tc.boot_isinstance (pa_cons (pn 0) (pa_cons (pe_bltn (v := .ty "int") (by rfl) T.z_int Tc.boot_int rfl) pa_nil))) (pe_one (pe_notG (pe_callB (isiK (K := K)) (by rfl) T.z_isinstance Tc.boot_isinstance (pa_cons (pn 0) (pa_cons (pe_bltn (v := .ty "bool") (by rfl) T.z_bool Tc.boot_bool rfl) pa_nil)))))))), ?_⟩
    rw [← isD_int] at q
    refine ⟨d, .int, hd, rfl, ite2 (fun e => ?_) (fun e => ?_)⟩
    · rw [e] at q
      exact ⟨d, .bool, hd, rfl, q⟩
    · rw [Bool.eq_false_iff.mpr e] at q
      exact q
theorem ok__law_is_change (T : Txt K mg) : FnOk P w K mg base CX0 2 T.f__law_is_change T.fd__law_is_change ["thing"] (spLk K changeD) := by
  refine T.F__law_is_change.ok sc__law_is_change (fun vs H Q E h => ?_) (fun cdv A outer s H vs Q E hr h => ?_)
  · obtain ⟨v, d, rfl, _⟩ := h
    rfl
  · obtain ⟨v, d, rfl, hd, _, q⟩ := h
    have hu := hu_of hr
    refine ⟨_, (pss_cons (ps_if (PW.pt (pw_or (pt_not (truK (K := K) (pe_callB (isiK (K := K)) (by rfl) T.z_isinstance Tc.boot_isinstance (pa_cons (pn 0) (pa_cons (pe_bltn (v := .ty "tuple") (by rfl) T.z_tuple Tc.boot_tuple rfl) pa_nil))))) (pw_or (pt_not (pt_chainG op_leG op_leG pe_int (pe_callB (lenK (K := K)) (by rfl) T.z_len Tc.boot_len (pa_cons (pn 0) pa_nil)) pe_int)) (pw_or1 (pt_not (truK (K := K) (pe_callB (isiK (K := K)) (by rfl) T.z_isinstance Tc.boot_isinstance (pa_cons (pe_ix (ixK (K := K)) (pn 0) pe_int (fun _ _ => rfl)) (pa_cons (pe_bltn (v := .ty "str") (by rfl) T.z_str Tc.boot_str rfl) pa_nil)))))))))
      (pss_one (ps_ret pe_bl))
      pss_nil)
      (pss_cons (ps_if (PW.pt (pw_or (pt_cmpG (neK (K := K) hr.units) (pe_ix (ixK (K := K)) (pn 0) pe_int (fun _ _ => rfl)) (pe_dget hu (pe_disp (pps_cons pe_int pe_str (pps_cons pe_int pe_str pps_nil)) (by rfl) (by rfl) (fun z => by cases z) (by decide)) (pe_callB (lenK (K := K)) (by rfl) T.z_len Tc.boot_len (pa_cons (pn 0) pa_nil)) (fun _ _ => rfl)) (nomark _)) (pw_or1 (pt_not (truK (K := K) (pe_call (ok__law_within T) hr (by rfl) T.g__law_within T.F__law_within.kp T.b__law_within .nil pass0 (pa_cons (pe_ix (ixK (K := K)) (pn 0) pe_int (fun _ _ => rfl)) (pa_cons pe_int (pa_cons pe_int pa_nil)))))))))
      (pss_one (ps_ret pe_bl))
      pss_nil)
      (pss_one (ps_ret (pe_orG (pe_cmpR (eqK (K := K) hr.units) (pe_callB (lenK (K := K)) (by rfl) T.z_len Tc.boot_len (pa_cons (pn 0) pa_nil)) pe_int (nomark _)) (pe_one (pe_call (ok__law_within T) hr (by rfl) T.g__law_within T.F__law_within.kp T.b__law_within .nil pass0 (pa_cons (pe_ix (ixK (K := K)) (pn 0) pe_int (fun _ _ => rfl)) (pa_cons pe_int (pa_cons pe_int pa_nil)))))))))), ?_⟩
    have hd' := hd
    cases hd with
    | @tup a xs ds hs ha =>
      refine ⟨_, .tuple, hd', rfl, xs, .inr hs, ite2 (fun e => ?_) (fun e => ?_)⟩
      · refine ite2 (fun e2 => ?_) (fun e2 => ?_)
        · have e2 := not_eq_true e2
          rw [decide_eq_false_iff_not] at e2
          rw [changeD_len (by rw [← ha.length]; omega) (by rw [← ha.length]; omega)] at q
          exact q _ (Same.refl H)
        · have n23 := two_three e2 e
          cases ha with
          | nil => simp at n23
          | @cons x0 xs d0 ds h0 ha =>
            rw [List.length_cons] at n23
            refine ⟨_, x0, .inr hs, at0, d0, .str, h0, rfl, ?_⟩
            cases h0 with
            | str z =>
              refine ⟨_, _, .inr hs, at0, fun p hp => ⟨upd_same, [(.inl 2, .str "drop"), (.inl 3, .str "put")], rfl, (by show 2 ≤ 15; decide), ?_⟩⟩
              have sm : Same H (upd (upd H p (.dK [])) p (.dK (mergeK [] [(.inl 2, V.str "drop"), (.inl 3, .str "put")]))) := fun a o ho => by
                have n := ne_of_none ho hp
                rw [upd_ne n, upd_ne n]; exact ho
              refine ⟨_, .inr (same_tup sm hs), ?_⟩
              rcases n23 with n | n
              · have n2 : xs.length = 1 := by omega
                obtain ⟨x, d1, rfl, rfl, h1⟩ := ha.one n2
                refine ⟨p, .str "drop", rfl, .inl ⟨_, .inl 2, .inl upd_same, rfl, rfl⟩, ite2 (fun e => ?_) (fun e => ?_)⟩
                · have e := not_eq_true e
                  have z1 : changeD (.tuple [.str z, d1]) = false := by
                    show (decide (z = "drop") && _) = _
                    rw [e, Bool.false_and]
                  rw [z1] at q
                  exact q _ sm
                · have e := nnot_true e
                  have z1 : changeD (.tuple [.str z, d1]) = withinD d1 0 999 := by
                    show (decide (z = "drop") && _) = _
                    rw [e, Bool.true_and]
                  rw [z1] at q
                  refine ⟨_, x, .inr (same_tup sm hs), at1, x, d1, _, _, rfl, DV.same sm h1, ite2 (fun c => ?_) (fun c => ?_)⟩
                  · have c := not_eq_true c
                    rw [c] at q
                    exact q _ sm
                  · have c := nnot_true c
                    rw [c] at q
                    exact ⟨_, .inr (same_tup sm hs), q _ sm⟩
              · have n2 : xs.length = 2 := by omega
                obtain ⟨x, y, d1, d2, rfl, rfl, h1, h2⟩ := ha.two n2
                refine ⟨p, .str "put", rfl, .inl ⟨_, .inl 3, .inl upd_same, rfl, rfl⟩, ite2 (fun e => ?_) (fun e => ?_)⟩
                · have e := not_eq_true e
                  have z1 : changeD (.tuple [.str z, d1, d2]) = false := by
                    show (decide (z = "put") && _) = _
                    rw [e, Bool.false_and]
                  rw [z1] at q
                  exact q _ sm
                · have e := nnot_true e
                  have z1 : changeD (.tuple [.str z, d1, d2]) = (withinD d1 0 999 && withinD d2 0 999) := by
                    show (decide (z = "put") && _) = _
                    rw [e, Bool.true_and]
                  rw [z1] at q
                  refine ⟨_, x, .inr (same_tup sm hs), at1, x, d1, _, _, rfl, DV.same sm h1, ite2 (fun c => ?_) (fun c => ?_)⟩
                  · have c := not_eq_true c
                    rw [c] at q
                    exact q _ sm
                  · have c := nnot_true c
                    rw [c, Bool.true_and] at q
                    exact ⟨_, .inr (same_tup sm hs), _, y, .inr (same_tup sm hs), at2, y, d2, _, _, rfl, DV.same sm h2, q _ sm⟩
            | _ => exact q _ (Same.refl H)
      · rw [changeD_len (by rw [← ha.length]; exact fun m => e (decide_eq_true (by omega))) (by rw [← ha.length]; exact fun m => e (decide_eq_true (by omega)))] at q
        exact q _ (Same.refl H)
    | _ => exact ⟨_, .tuple, hd', rfl, q _ (Same.refl H)⟩
theorem ok__law_are_changes (T : Txt K mg) : FnOk P w K mg base CX0 3 T.f__law_are_changes T.fd__law_are_changes ["thing"] (spLk K changesD) := by
  refine T.F__law_are_changes.ok sc__law_are_changes (fun vs H Q E h => ?_) (fun cdv A outer s H vs Q E hr h => ?_)
  · obtain ⟨v, d, rfl, _⟩ := h
    rfl
  · obtain ⟨v, d, rfl, hd, _, q⟩ := h
    refine ⟨_, (pss_cons (ps_if (PW.pt (pw_or (pt_not (truK (K := K) (pe_callB (isiK (K := K)) (by rfl) T.z_isinstance Tc.boot_isinstance (pa_cons (pn 0) (pa_cons (pe_bltn (v := .ty "tuple") (by rfl) T.z_tuple Tc.boot_tuple rfl) pa_nil))))) (pw_or1 (pt_not (pt_chainG op_leG op_leG pe_int (pe_callB (lenK (K := K)) (by rfl) T.z_len Tc.boot_len (pa_cons (pn 0) pa_nil)) pe_int)))))
      (pss_one (ps_ret pe_bl))
      pss_nil)
      (pss_one (ps_ret (pe_cmpR (eqK (K := K) hr.units) (pe_lc (own := [("change", 1)]) rfl sc__law_are_changes.nd (piK (K := K) (pn 0)) (blkOk_by (own := [("change", 1)]) (N := ["thing", "change"]) (sc := defScope s__law_are_changes) (by decide +kernel)) (fun _ _ _ _ _ => by exact (pg_name (i := 1) sc__law_are_changes.nd rfl (Or.inl rfl))) (fun _ _ _ _ _ => by exact (pts_one (pt_not (truK (K := K) (pe_call (ok__law_is_change T) hr (by rfl) T.g__law_is_change T.F__law_is_change.kp T.b__law_is_change .nil pass0 (pa_cons (pn 1) pa_nil)))))) (fun _ _ _ _ _ => by exact (pn 1))) (pe_lst pa_nil) (nomark _))))), ?_⟩
    have hd' := hd
    cases hd with
    | @tup a xs ds hs ha =>
      have len := ha.length
      refine ⟨_, .tuple, hd', rfl, xs, .inr hs, ite2 (fun e => ite2 (fun e2 => ?_) (fun e2 => ?_)) (fun e => ?_)⟩
      · have e2 := not_eq_true e2
        have z : changesD (.tuple ds) = false := by
          show (decide (1 ≤ ds.length) && (decide (ds.length ≤ 6) && ds.all changeD)) = _
          rw [decide_eq_false (p := ds.length ≤ 6) (fun m => by rw [decide_eq_false_iff_not] at e2; omega)]
          cases decide (1 ≤ ds.length) <;> rfl
        rw [z] at q
        exact q _ (Same.refl H)
      · have e2 := nnot_true e2
        have e := of_decide_eq_true e
        have e2 := of_decide_eq_true e2
        refine lc_growF (xs.zip ds) (fun z => !changeD z.2) (fun z => z.1) (by rw [ha.zip1]; exact .inr hs) (by rw [ha.zipl]; exact line_lt (by omega)) (by intro _; rfl) (fun z H' hz sm Qe qe => ?_) (fun z H' hz sm e Qe qe => ?_) (fun D H' hD sm hL => ?_)
        · exact ⟨z.1, z.2, rfl, DV.same sm (ha.zipd z hz), trivial, fun H'' s2 => qe _ s2⟩
        · exact qe _ (Same.refl _)
        · refine ⟨Nat.zero_le _, fun E0 hE => ?_⟩
          have s2 := sm.trans (same_upd (o := .lst []) hE)
          have nDE : D ≠ E0 := fun z => by rw [← z, hL] at hE; cases hE
          have fe : ((xs.zip ds).filter fun z => !changeD z.2).map (fun z => z.2) = ds.filter fun d => !changeD d := ha.zipp fun d => !changeD d
          have hL2 : DVs K H (((xs.zip ds).filter fun z => !changeD z.2).map fun z => z.1) (ds.filter fun d => !changeD d) := by
            rw [← fe]
            exact DVs.of_zip fun z hz => ha.zipd z (List.mem_filter.mp hz).1
          refine ⟨.list (ds.filter fun d => !changeD d), .list [], .lst (SqL.of (by rw [upd_ne nDE]; exact hL)) (DVs.same s2 hL2).dp, .lst (SqL.of upd_same) .nil, .inr (by show 0 + 1 ≤ 60; omega), ?_⟩
          rw [eqv_none, all_filter]
          have z : changesD (.tuple ds) = ds.all changeD := by
            show (decide (1 ≤ ds.length) && (decide (ds.length ≤ 6) && ds.all changeD)) = _
            rw [dec_true (by omega), dec_true (by omega)]; rfl
          rw [← z]
          exact q _ s2
      · have z : changesD (.tuple ds) = false := by
          show (decide (1 ≤ ds.length) && (decide (ds.length ≤ 6) && ds.all changeD)) = _
          rw [decide_eq_false (p := 1 ≤ ds.length) (fun m => e (decide_eq_true (by omega)))]
          rfl
        rw [z] at q
        exact q _ (Same.refl H)
    | _ => exact ⟨_, .tuple, hd', rfl, q _ (Same.refl H)⟩
theorem ok__law_is_entry (T : Txt K mg) : FnOk P w K mg base CX0 4 T.f__law_is_entry T.fd__law_is_entry ["thing"] (spLk K entryD) := by
  refine T.F__law_is_entry.ok sc__law_is_entry (fun vs H Q E h => ?_) (fun cdv A outer s H vs Q E hr h => ?_)
  · obtain ⟨v, d, rfl, _⟩ := h
    rfl
  · obtain ⟨v, d, rfl, hd, _, q⟩ := h
    have l2 : (2 : Nat) ≤ sizeLine := line_le (by decide)
    refine ⟨_, (pss_cons (ps_if (PW.pt (pw_or (pt_not (truK (K := K) (pe_callB (isiK (K := K)) (by rfl) T.z_isinstance Tc.boot_isinstance (pa_cons (pn 0) (pa_cons (pe_bltn (v := .ty "tuple") (by rfl) T.z_tuple Tc.boot_tuple rfl) pa_nil))))) (pw_or (pt_not (pt_chainG op_leG op_leG pe_int (pe_callB (lenK (K := K)) (by rfl) T.z_len Tc.boot_len (pa_cons (pn 0) pa_nil)) pe_int)) (pw_or1 (pt_not (truK (K := K) (pe_callB (isiK (K := K)) (by rfl) T.z_isinstance Tc.boot_isinstance (pa_cons (pe_ix (ixK (K := K)) (pn 0) pe_int (fun _ _ => rfl)) (pa_cons (pe_bltn (v := .ty "str") (by rfl) T.z_str Tc.boot_str rfl) pa_nil)))))))))
      (pss_one (ps_ret pe_bl))
      pss_nil)
      (pss_cons (ps_if (pt_cmpG (eqK (K := K) hr.units) (pe_callB (lenK (K := K)) (by rfl) T.z_len Tc.boot_len (pa_cons (pn 0) pa_nil)) pe_int (nomark _))
      (pss_one (ps_ret (pe_andG (pe_cmpR (eqK (K := K) hr.units) (pe_ix (ixK (K := K)) (pn 0) pe_int (fun _ _ => rfl)) pe_str (nomark _)) (pe_one (pe_call (ok__law_are_changes T) hr (by rfl) T.g__law_are_changes T.F__law_are_changes.kp T.b__law_are_changes .nil pass0 (pa_cons (pe_ix (ixK (K := K)) (pn 0) pe_int (fun _ _ => rfl)) pa_nil))))))
      pss_nil)
      (pss_cons (ps_if (PW.pt (pw_or (pt_cmpG (notinK (K := K) hr.units) (pe_ix (ixK (K := K)) (pn 0) pe_int (fun _ _ => rfl)) (pe_lst (pa_cons pe_str (pa_cons pe_str pa_nil))) (by rfl)) (pw_or (pt_not (truK (K := K) (pe_call (ok__law_whole T) (hr.mono (by decide)) (by rfl) T.g__law_whole T.F__law_whole.kp T.b__law_whole .nil pass0 (pa_cons (pe_ix (ixK (K := K)) (pn 0) pe_int (fun _ _ => rfl)) pa_nil)))) (pw_or1 (pt_not (truK (K := K) (pe_call (ok__law_whole T) (hr.mono (by decide)) (by rfl) T.g__law_whole T.F__law_whole.kp T.b__law_whole .nil pass0 (pa_cons (pe_ix (ixK (K := K)) (pn 0) pe_int (fun _ _ => rfl)) pa_nil))))))))
      (pss_one (ps_ret pe_bl))
      pss_nil)
      (pss_one (ps_ret (pe_andG (pe_cmpR op_geG (pe_ix (ixK (K := K)) (pn 0) pe_int (fun _ _ => rfl)) pe_int (nomark _)) (pe_one (pe_cmpR op_geG (pe_ix (ixK (K := K)) (pn 0) pe_int (fun _ _ => rfl)) pe_int (nomark _))))))))), ?_⟩
    have hd' := hd
    cases hd with
    | @tup a xs ds hs ha =>
      refine ⟨_, .tuple, hd', rfl, xs, .inr hs, ite2 (fun e => ite2 (fun e2 => ?_) (fun e2 => ?_)) (fun e => ?_)⟩
      · have e2 := not_eq_true e2
        rw [decide_eq_false_iff_not] at e2
        rw [entryD_len (by rw [← ha.length]; omega) (by rw [← ha.length]; omega)] at q
        exact q _ (Same.refl H)
      · have n23 := two_three e2 e
        cases ha with
        | nil => simp at n23
        | @cons x0 xs d0 ds h0 ha =>
          rw [List.length_cons] at n23
          refine ⟨_, x0, .inr hs, at0, d0, .str, h0, rfl, ?_⟩
          cases h0 with
          | str z =>
            refine ⟨_, .inr hs, ite2 (fun n => ?_) (fun n => ?_)⟩
            · have n : ((V.str z :: xs).length : Int) = 2 := of_decide_eq_true n
              have n2 : xs.length = 1 := by rw [List.length_cons] at n; omega
              obtain ⟨x, d1, rfl, rfl, h1⟩ := ha.one n2
              refine ⟨_, _, .inr hs, at0, ite2 (fun c => ?_) (fun c => ?_)⟩
              · have c : decide (z = "group") = true := c
                have z1 : entryD (.tuple [.str z, d1]) = changesD d1 := by
                  show (decide (z = "group") && _) = _
                  rw [c, Bool.true_and]
                rw [z1] at q
                exact ⟨_, x, .inr hs, at1, x, d1, rfl, h1, trivial, q⟩
              · have c : decide (z = "group") = false := not_true c
                have z1 : entryD (.tuple [.str z, d1]) = false := by
                  show (decide (z = "group") && _) = _
                  rw [c, Bool.false_and]
                rw [z1] at q
                exact q _ (Same.refl H)
            · have n2 : xs.length = 2 := by
                have n := not_true n
                have n : decide (((V.str z :: xs).length : Int) = 2) = false := n
                rw [decide_eq_false_iff_not, List.length_cons] at n
                omega
              obtain ⟨x, y, d1, d2, rfl, rfl, h1, h2⟩ := ha.two n2
              refine ⟨_, _, .inr hs, at0, l2, fun e1 he1 => ?_⟩
              have s2 := same_upd (o := .lst [.str "low", .str "high"]) he1
              refine ⟨.str z, [.str "low", .str "high"], .str z, .inl (.lst (SqL.of upd_same) (.cons (.str _) (.cons (.str _) .nil))), Nat.zero_le _, ?_⟩
              have eany : ([PyData.str "low", .str "high"].any fun y => PyData.eqv y (.str z)) = (decide (z = "low") || decide (z = "high")) := by
                show (decide (("low" : Str) = z) || (decide (("high" : Str) = z) || false)) = _
                rw [Bool.or_false, decide_eq_decide.mpr (eq_comm (a := ("low" : Str))), decide_eq_decide.mpr (eq_comm (a := ("high" : Str)))]
              rw [eany]
              have z1 : entryD (.tuple [.str z, d1, d2]) = ((decide (z = "low") || decide (z = "high")) && (geD 1 d1 && geD 0 d2)) := rfl
              rw [z1] at q
              refine ite2 (fun c => ?_) (fun c => ?_)
              · have c := not_eq_true c
                rw [c] at q
                exact q _ s2
              · have c := nnot_true c
                rw [c, Bool.true_and] at q
                refine ⟨_, x, .inr (same_tup s2 hs), at1, x, d1, rfl, DV.same s2 h1, ite2 (fun w1 => ?_) (fun w1 => ?_)⟩
                · rw [geD_not (not_eq_true w1)] at q
                  exact q _ s2
                · obtain ⟨i, rfl, rfl⟩ := int_of_whole h1 (nnot_true w1)
                  refine ⟨_, y, .inr (same_tup s2 hs), at2, y, d2, rfl, DV.same s2 h2, ite2 (fun w2 => ?_) (fun w2 => ?_)⟩
                  · rw [geD_not (not_eq_true w2), Bool.and_false] at q
                    exact q _ s2
                  · obtain ⟨j, rfl, rfl⟩ := int_of_whole h2 (nnot_true w2)
                    refine ⟨_, _, .inr (same_tup s2 hs), at1, ite2 (fun c1 => ?_) (fun c1 => ?_)⟩
                    · have c1 : geD 1 (.int i) = true := c1
                      rw [c1, Bool.true_and] at q
                      exact ⟨_, _, .inr (same_tup s2 hs), at2, q _ s2⟩
                    · have c1 : geD 1 (.int i) = false := not_true c1
                      rw [c1] at q
                      exact q _ s2
          | _ => exact q _ (Same.refl H)
      · rw [entryD_len (by rw [← ha.length]; exact fun m => e (decide_eq_true (by omega))) (by rw [← ha.length]; exact fun m => e (decide_eq_true (by omega)))] at q
        exact q _ (Same.refl H)
    | _ => exact ⟨_, .tuple, hd', rfl, q _ (Same.refl H)⟩
theorem ok__law_is_log (T : Txt K mg) : FnOk P w K mg base CX0 5 T.f__law_is_log T.fd__law_is_log ["thing"] (spLk K logD) := by
  refine T.F__law_is_log.ok sc__law_is_log (fun vs H Q E h => ?_) (fun cdv A outer s H vs Q E hr h => ?_)
  · obtain ⟨v, d, rfl, _⟩ := h
    rfl
  · obtain ⟨v, d, rfl, hd, _, q⟩ := h
    refine ⟨_, (pss_cons (ps_if (PW.pt (pw_or (pt_not (truK (K := K) (pe_callB (isiK (K := K)) (by rfl) T.z_isinstance Tc.boot_isinstance (pa_cons (pn 0) (pa_cons (pe_bltn (v := .ty "list") (by rfl) T.z_list Tc.boot_list rfl) pa_nil))))) (pw_or1 (pt_cmpG op_gtG (pe_callB (lenK (K := K)) (by rfl) T.z_len Tc.boot_len (pa_cons (pn 0) pa_nil)) pe_int (nomark _)))))
      (pss_one (ps_ret pe_bl))
      pss_nil)
      (pss_one (ps_ret (pe_cmpR (eqK (K := K) hr.units) (pe_lc (own := [("entry", 1)]) rfl sc__law_is_log.nd (piK (K := K) (pn 0)) (blkOk_by (own := [("entry", 1)]) (N := ["thing", "entry"]) (sc := defScope s__law_is_log) (by decide +kernel)) (fun _ _ _ _ _ => by exact (pg_name (i := 1) sc__law_is_log.nd rfl (Or.inl rfl))) (fun _ _ _ _ _ => by exact (pts_one (pt_not (truK (K := K) (pe_call (ok__law_is_entry T) hr (by rfl) T.g__law_is_entry T.F__law_is_entry.kp T.b__law_is_entry .nil pass0 (pa_cons (pn 1) pa_nil)))))) (fun _ _ _ _ _ => by exact (pn 1))) (pe_lst pa_nil) (nomark _))))), ?_⟩
    have hd' := hd
    cases hd with
    | @lst a xs ds hs ha =>
      have len := ha.length
      have hs := SqL.of (K := K) hs
      refine ⟨_, .list, hd', rfl, xs, .inl hs, ite2 (fun e => ?_) (fun e => ?_)⟩
      · have e := of_decide_eq_true e
        have z : logD (.list ds) = false := by
          show (decide (ds.length ≤ 400) && ds.all entryD) = _
          rw [decide_eq_false (p := ds.length ≤ 400) (fun m => by omega)]
          rfl
        rw [z] at q
        exact q _ (Same.refl H)
      · have e := not_true e
        have e : decide (400 < ((xs.length : Nat) : Int)) = false := e
        rw [decide_eq_false_iff_not] at e
        refine lc_growF (xs.zip ds) (fun z => !entryD z.2) (fun z => z.1) (by rw [ha.zip1]; exact .inl hs) (by rw [ha.zipl]; exact line_lt (by omega)) (by intro _; rfl) (fun z H' hz sm Qe qe => ?_) (fun z H' hz sm e Qe qe => ?_) (fun D H' hD sm hL => ?_)
        · exact ⟨z.1, z.2, rfl, DV.same sm (ha.zipd z hz), trivial, fun H'' s2 => qe _ s2⟩
        · exact qe _ (Same.refl _)
        · refine ⟨Nat.zero_le _, fun E0 hE => ?_⟩
          have s2 := sm.trans (same_upd (o := .lst []) hE)
          have nDE : D ≠ E0 := fun z => by rw [← z, hL] at hE; cases hE
          have fe : ((xs.zip ds).filter fun z => !entryD z.2).map (fun z => z.2) = ds.filter fun d => !entryD d := ha.zipp fun d => !entryD d
          have hL2 : DVs K H (((xs.zip ds).filter fun z => !entryD z.2).map fun z => z.1) (ds.filter fun d => !entryD d) := by
            rw [← fe]
            exact DVs.of_zip fun z hz => ha.zipd z (List.mem_filter.mp hz).1
          refine ⟨.list (ds.filter fun d => !entryD d), .list [], .lst (SqL.of (by rw [upd_ne nDE]; exact hL)) (DVs.same s2 hL2).dp, .lst (SqL.of upd_same) .nil, .inr (by show 0 + 1 ≤ 60; omega), ?_⟩
          rw [eqv_none, all_filter]
          have z : logD (.list ds) = ds.all entryD := by
            show (decide (ds.length ≤ 400) && ds.all entryD) = _
            rw [dec_true (by omega)]; rfl
          rw [← z]
          exact q _ s2
    | _ => exact ⟨_, .list, hd', rfl, q _ (Same.refl H)⟩

end

section
variable {P : Program} {w : World} {K : PySem.W.Frag} {mg : Str → Option Value} {base : Heap}
theorem ok__law_of (T : Txt K mg) : FnOk P w K mg base CX0 2 T.f__law_of T.fd__law_of ["bag", "some"] (spOf K) := by
  refine T.F__law_of.ok sc__law_of (fun vs H Q E h => ?_) (fun cdv A outer s H vs Q E hr h => ?_)
  · obtain ⟨b, p, xs, rfl, _⟩ := h
    rfl
  · obtain ⟨b, p, xs, rfl, hb, hs, n0, n1, q⟩ := h
    refine ⟨_, (pss_one (ps_ret (pe_ix (ixK (K := K)) (pn 1) (pe_call (ok__law_take T) hr (by rfl) T.g__law_take T.F__law_take.kp T.b__law_take .nil pass0 (pa_cons (pn 0) (pa_cons (pe_callB (lenK (K := K)) (by rfl) T.z_len Tc.boot_len (pa_cons (pn 1) pa_nil)) pa_nil))) (fun _ _ => rfl)))), ?_⟩
    refine ⟨xs, hs.sq, b, _, rfl, hb, by omega, by omega, fun r H1 r0 r1 g1 => ?_⟩
    obtain ⟨v, hv, e⟩ := pickV xs r0 r1
    exact ⟨xs, v, (hs.gr g1).sq, e, q v _ (List.mem_of_getElem? hv) g1⟩
theorem ok__law_changes (T : Txt K mg) : FnOk P w K mg base CX0 3 T.f__law_changes T.fd__law_changes ["bag", "keys", "most"] (spChanges K) := by
  refine T.F__law_changes.ok sc__law_changes (fun vs H Q E h => ?_) (fun cdv A outer s H vs Q E hr h => ?_)
  · obtain ⟨b, p, ks, m, rfl, _⟩ := h
    rfl
  · obtain ⟨b, p, ks, m, rfl, hb, hp, k0, k1, m0, m1, q⟩ := h
    have l0 : (0 : Nat) ≤ sizeLine := Nat.zero_le _
    have l2 : (2 : Nat) ≤ sizeLine := line_le (by decide)
    have l3 : (3 : Nat) ≤ sizeLine := line_le (by decide)
    refine ⟨_, (pss_cons (ps_set (i := 3) sc__law_changes.nd rfl (Or.inl rfl) (pe_lst pa_nil))
      (pss_cons (ps_for PassesOwn.never rfl (pi_range1 (by rfl) T.z_range (pa_cons (pe_op (addK (K := K)) pe_int (pe_call (ok__law_take T) (hr.mono (by decide)) (by rfl) T.g__law_take T.F__law_take.kp T.b__law_take .nil pass0 (pa_cons (pn 0) (pa_cons (pn 2) pa_nil)))) pa_nil)) (pg_name (i := 4) sc__law_changes.nd rfl (Or.inl rfl))
      (pss_cons (ps_set (i := 5) sc__law_changes.nd rfl (Or.inl rfl) (pe_call (ok__law_of T) hr (by rfl) T.g__law_of T.F__law_of.kp T.b__law_of .nil pass0 (pa_cons (pn 0) (pa_cons (pn 1) pa_nil))))
      (pss_one (ps_if (pt_cmpG (eqK (K := K) hr.units) (pe_call (ok__law_take T) (hr.mono (by decide)) (by rfl) T.g__law_take T.F__law_take.kp T.b__law_take .nil pass0 (pa_cons (pn 0) (pa_cons pe_int pa_nil))) pe_int (nomark _))
      (pss_one (ps_expr (pe_bm PySem.F.plainAttrs_list PySem.F.slot_list_append PySem.F.type_list_append mt_append (pn 3) (pa_cons (pe_tup (pa_cons pe_str (pa_cons (pn 5) pa_nil))) pa_nil))))
      (pss_one (ps_expr (pe_bm PySem.F.plainAttrs_list PySem.F.slot_list_append PySem.F.type_list_append mt_append (pn 3) (pa_cons (pe_tup (pa_cons pe_str (pa_cons (pn 5) (pa_cons (pe_ix (ixK (K := K)) (pe_lst (pa_cons (pe_call (ok__law_take T) (hr.mono (by decide)) (by rfl) T.g__law_take T.F__law_take.kp T.b__law_take .nil pass0 (pa_cons (pn 0) (pa_cons pe_int pa_nil))) (pa_cons (pe_call (ok__law_take T) (hr.mono (by decide)) (by rfl) T.g__law_take T.F__law_take.kp T.b__law_take .nil pass0 (pa_cons (pn 0) (pa_cons pe_int pa_nil))) pa_nil))) (pe_call (ok__law_take T) (hr.mono (by decide)) (by rfl) T.g__law_take T.F__law_take.kp T.b__law_take .nil pass0 (pa_cons (pn 0) (pa_cons pe_int pa_nil))) (fun _ _ => rfl)) pa_nil)))) pa_nil))))))))
      (pss_one (ps_ret (pe_callTy (tupleK (K := K)) (by rfl) T.z_tuple Tc.boot_tuple (pa_cons (pn 3) pa_nil)))))), ?_⟩
    refine ⟨l0, fun D nD => ?_⟩
    have hbD := hb.ne nD
    have g0 : Gr b H (upd H D (.lst [])) := Gr.new hb nD
    refine ⟨b, m, rfl, g0.1, by omega, by omega, fun r H1 r0 r1 g1 => ?_⟩
    refine ⟨1 + r, rfl, by omega, by omega, ?_⟩
    have e1 : H1 D = some (.lst []) := g1.2 _ _ hbD upd_same
    refine for_range (lo := 0) (n := (1 + r).toNat) (fun i σ H' => Gr b H H' ∧ ∃ acc cs x4 x5, σ = [some (.ref b), some (.ref p), some (.int m), some (.ref D), x4, x5] ∧ H' D = some (.lst acc) ∧ DVs K H' acc (cs.map chD) ∧ cs.length = i ∧ ∀ c ∈ cs, c.In ks) ⟨g0.trans g1, [], [], _, _, rfl, e1, .nil, rfl, fun c hc => by cases hc⟩ (fun i σ H2 lt pv => ?_) (fun σ H2 pv => ?_)
    · obtain ⟨g2, acc, cs, x4, x5, rfl, eD, hd, hl, hc⟩ := pv
      refine ⟨b, p, _, rfl, g2.1, (hp.gr g2).sqAt, by rw [List.length_map]; exact k0, by rw [List.length_map]; omega, fun x H3 hx g3 => ?_⟩
      obtain ⟨key, hkey, rfl⟩ := List.mem_map.mp hx
      have G3 := g2.trans g3
      have la : acc.length < sizeLine := by
        rw [hd.length, List.length_map]
        exact line_lt (by omega)
      refine ⟨b, 3, rfl, G3.1, by decide, by decide, fun r2 H4 _ _ g4 => ?_⟩
      have G4 := G3.trans g4
      have D4 := (g3.trans g4).2 _ _ hbD eD
      have d4 := hd.ts ((g3.trans g4).ts g2.1) (noLs_chs cs)
      refine ite2 (fun e => ?_) (fun e => ?_)
      · refine ⟨.inl ⟨rfl, _, SqL.of D4⟩, l2, fun t ht => ?_⟩
        have g5 := Gr.new (o := .tup [.str "drop", .int key]) G4.1 ht
        have D5 := g5.2 _ _ hbD D4
        refine ⟨D, acc, _, rfl, rfl, D5, la, ?_⟩
        have d5 : DVs K (upd H4 t (.tup [.str "drop", .int key])) (acc ++ [.ref t]) ((cs ++ [Ch.drop key]).map chD) := by
          rw [List.map_append]
          exact (DVs.same (same_upd ht) d4).snoc (dv_drop (K := K) upd_same)
        refine ⟨(G4.trans g5).put hbD nD, acc ++ [.ref t], cs ++ [.drop key], _, _, rfl, upd_same, d5.ts (TSame.lst D5) (noLs_chs _), by rw [List.length_append, hl]; rfl, fun c hc' => ?_⟩
        · rcases List.mem_append.mp hc' with z | z
          · exact hc c z
          · cases List.mem_singleton.mp z
            exact hkey
      · refine ⟨.inl ⟨rfl, _, SqL.of D4⟩, b, 1000, rfl, G4.1, by decide, by decide, fun w1 H5 w10 w11 g5 => ?_⟩
        refine ⟨b, 3, rfl, g5.1, by decide, by decide, fun w2 H6 w20 w21 g6 => ⟨l2, fun L hL => ?_⟩⟩
        have g7 := Gr.new (o := .lst [.int w1, .int w2]) g6.1 hL
        have nL := g6.1.ne hL
        refine ⟨b, 2, rfl, g7.1, by decide, by decide, fun r3 H7 r30 r31 g8 => ?_⟩
        have eL := g8.2 _ _ nL upd_same
        obtain ⟨wo, hwo, ewo⟩ := pickI [w1, w2] r30 r31
        have wo1 : 0 ≤ wo ∧ wo ≤ 999 := by
          simp only [List.mem_cons, List.not_mem_nil, or_false] at hwo
          rcases hwo with rfl | rfl <;> omega
        refine ⟨_, _, .inl (SqL.of eL), ewo, l3, fun t ht => ?_⟩
        have g9 := Gr.new (o := .tup [.str "put", .int key, .int wo]) g8.1 ht
        have gg := ((g5.trans g6).trans g7).trans g8
        have D7 := gg.2 _ _ hbD D4
        have D5 := g9.2 _ _ hbD D7
        refine ⟨D, acc, _, rfl, rfl, D5, la, ?_⟩
        have d7 := d4.ts (gg.ts G4.1) (noLs_chs cs)
        have d5 : DVs K (upd H7 t (.tup [.str "put", .int key, .int wo])) (acc ++ [.ref t]) ((cs ++ [Ch.put key wo]).map chD) := by
          rw [List.map_append]
          exact (DVs.same (same_upd ht) d7).snoc (dv_put (K := K) upd_same)
        refine ⟨((G4.trans gg).trans g9).put hbD nD, acc ++ [.ref t], cs ++ [.put key wo], _, _, rfl, upd_same, d5.ts (TSame.lst D5) (noLs_chs _), by rw [List.length_append, hl]; rfl, fun c hc' => ?_⟩
        · rcases List.mem_append.mp hc' with z | z
          · exact hc c z
          · cases List.mem_singleton.mp z
            exact ⟨hkey, wo1⟩
    · obtain ⟨g2, acc, cs, x4, x5, rfl, eD, hd, hl, hc⟩ := pv
      refine Or.inl ⟨acc, SqL.of eD, fun t ht => ?_⟩
      have g3 := Gr.new (o := .tup acc) g2.1 ht
      exact q t acc cs _ (g2.free hb ht) (by omega) (by omega) hc (g2.trans g3) upd_same (hd.same (same_upd ht))
theorem ok__law_entry (T : Txt K mg) : FnOk P w K mg base CX0 4 T.f__law_entry T.fd__law_entry ["bag", "keys"] (spEntry K) := by
  refine T.F__law_entry.ok sc__law_entry (fun vs H Q E h => ?_) (fun cdv A outer s H vs Q E hr h => ?_)
  · obtain ⟨b, p, ks, rfl, _⟩ := h
    rfl
  · obtain ⟨b, p, ks, rfl, hb, hp, k0, k1, q⟩ := h
    have l2 : (2 : Nat) ≤ sizeLine := line_le (by decide)
    have l3 : (3 : Nat) ≤ sizeLine := line_le (by decide)
    refine ⟨_, (pss_cons (ps_if (pt_cmpG (eqK (K := K) hr.units) (pe_call (ok__law_take T) (hr.mono (by decide)) (by rfl) T.g__law_take T.F__law_take.kp T.b__law_take .nil pass0 (pa_cons (pn 0) (pa_cons pe_int pa_nil))) pe_int (nomark _))
      (pss_one (ps_ret (pe_tup (pa_cons (pe_ix (ixK (K := K)) (pe_lst (pa_cons pe_str (pa_cons pe_str pa_nil))) (pe_call (ok__law_take T) (hr.mono (by decide)) (by rfl) T.g__law_take T.F__law_take.kp T.b__law_take .nil pass0 (pa_cons (pn 0) (pa_cons pe_int pa_nil))) (fun _ _ => rfl)) (pa_cons (pe_op (addK (K := K)) pe_int (pe_call (ok__law_take T) (hr.mono (by decide)) (by rfl) T.g__law_take T.F__law_take.kp T.b__law_take .nil pass0 (pa_cons (pn 0) (pa_cons pe_int pa_nil)))) (pa_cons (pe_call (ok__law_take T) (hr.mono (by decide)) (by rfl) T.g__law_take T.F__law_take.kp T.b__law_take .nil pass0 (pa_cons (pn 0) (pa_cons pe_int pa_nil))) pa_nil))))))
      pss_nil)
      (pss_one (ps_ret (pe_tup (pa_cons pe_str (pa_cons (pe_call (ok__law_changes T) hr (by rfl) T.g__law_changes T.F__law_changes.kp T.b__law_changes .nil pass0 (pa_cons (pn 0) (pa_cons (pn 1) (pa_cons pe_int pa_nil)))) pa_nil)))))), ?_⟩
    refine ⟨b, 4, rfl, hb, by decide, by decide, fun r H1 _ _ g1 => ite2 (fun e => ?_) (fun e => ?_)⟩
    · refine ⟨l2, fun L hL => ?_⟩
      have g2 := g1.trans (Gr.new (o := .lst [.str "low", .str "high"]) g1.1 hL)
      have nL := g1.1.ne hL
      refine ⟨b, 2, rfl, g2.1, by decide, by decide, fun r2 H2 r20 r21 g3 => ?_⟩
      have eL := g3.2 _ _ nL upd_same
      obtain ⟨lo, elo⟩ : ∃ lo, atI [V.str "low", .str "high"] r2 = some (.str (mkS lo)) := by
        rcases (by omega : r2 = 0 ∨ r2 = 1) with rfl | rfl
        · exact ⟨true, rfl⟩
        · exact ⟨false, rfl⟩
      refine ⟨_, _, .inl (SqL.of eL), elo, b, 4, rfl, g3.1, by decide, by decide, fun r3 H3 r30 r31 g4 => ?_⟩
      refine ⟨b, 9, rfl, g4.1, by decide, by decide, fun r4 H4 r40 r41 g5 => ⟨l3, fun t ht => ?_⟩⟩
      have g6 := Gr.new (o := .tup [.str (mkS lo), .int (1 + r3), .int r4]) g5.1 ht
      exact q _ (.mark lo (1 + r3) r4) _ ⟨by omega, by omega, by omega, by omega⟩ ((((g2.trans g3).trans g4).trans g5).trans g6) (.tup (.inl (.inl upd_same)) (.cons (.str _) (.cons (.int _) (.cons (.int _) .nil))))
    · refine ⟨b, p, ks, 3, rfl, g1.1, hp.gr g1, k0, k1, by decide, by decide, fun t vs cs H2 nt c1 c2 hc g2 et hd => ⟨l2, fun u hu => ?_⟩⟩
      have g3 := Gr.new (o := .tup [.str "group", .ref t]) g2.1 hu
      have s3 := same_upd (o := .tup [.str "group", .ref t]) hu
      exact q _ (.group cs) _ ⟨c1, c2, hc⟩ ((g1.trans g2).trans g3) (.tup (.inl (.inl upd_same)) (.cons (.str _) (.cons (.tup (.inl (.inl (s3 _ _ et))) (DVs.same s3 hd)) .nil)))
theorem ok__law_log (T : Txt K mg) : FnOk P w K mg base CX0 5 T.f__law_log T.fd__law_log ["bag", "keys", "most"] (spLog K) := by
  refine T.F__law_log.ok sc__law_log (fun vs H Q E h => ?_) (fun cdv A outer s H vs Q E hr h => ?_)
  · obtain ⟨b, p, ks, m, rfl, _⟩ := h
    rfl
  · obtain ⟨b, p, ks, m, rfl, hb, hp, k0, k1, m1, q⟩ := h
    refine ⟨_, (pss_one (ps_ret (pe_lc (own := [("turn", 3)]) rfl sc__law_log.nd (pi_range1 (by rfl) T.z_range (pa_cons (pe_call (ok__law_take T) (hr.mono (by decide)) (by rfl) T.g__law_take T.F__law_take.kp T.b__law_take .nil pass0 (pa_cons (pn 0) (pa_cons (pe_op (addK (K := K)) (pn 2) pe_int) pa_nil))) pa_nil)) (blkOk_by (own := [("turn", 3)]) (N := ["bag", "keys", "most", "turn"]) (sc := defScope s__law_log) (by decide +kernel)) (fun _ _ _ _ _ => by exact (pg_name (i := 3) sc__law_log.nd rfl (Or.inl rfl))) (fun _ _ _ _ _ => by exact pts_nil) (fun _ _ _ _ _ => by exact (pe_call (ok__law_entry T) hr (by rfl) T.g__law_entry T.F__law_entry.kp T.b__law_entry .nil pass0 (pa_cons (pn 0) (pa_cons (pn 1) pa_nil))))))), ?_⟩
    refine ⟨b, m + 1, rfl, hb, by omega, by omega, fun r H1 r0 r1 g1 => ⟨r, rfl, by omega, by omega, ?_⟩⟩
    refine lc_rng (lo := 0) (n := r.toNat) (fun k D H' => Gr b H H' ∧ ∃ acc es, H' D = some (.lst acc) ∧ es.length = k ∧ DVs K H' acc (es.map entD) ∧ ∀ e ∈ es, Ent.In ks 3 e) (fun D hD => ⟨g1.trans (Gr.new g1.1 hD), [], [], upd_same, rfl, .nil, fun e he => by cases he⟩) (fun k D H' lt hD pv => ?_) (fun D H' hD pv => ?_)
    · obtain ⟨g, acc, es, hacc, hlen, hd, hin⟩ := pv
      have nD := g1.1.ne hD
      refine ⟨rfl, ?_⟩
      refine ⟨b, p, ks, rfl, g.1, hp.gr g, k0, k1, fun v e H2 he g2 dv => ?_⟩
      have e2 := g2.2 _ _ nD hacc
      have d2 : DVs K H2 (acc ++ [v]) ((es ++ [e]).map entD) := by
        rw [List.map_append]
        exact (hd.ts (g2.ts g.1) (noLs_ents es)).snoc dv
      refine ⟨acc, e2, line_lt (by rw [hd.length, List.length_map]; omega), (g.trans g2).put nD (g1.free hb hD), acc ++ [v], es ++ [e], upd_same, by rw [List.length_append, hlen]; rfl, d2.ts (TSame.lst e2) (noLs_ents _), fun x hx => ?_⟩
      · rcases List.mem_append.mp hx with z | z
        · exact hin x z
        · cases List.mem_singleton.mp z
          exact he
    · obtain ⟨g, acc, es, hacc, hlen, hd, hin⟩ := pv
      exact q D acc es H' (g1.free hb hD) (by omega) hin g hacc hd

end

section
variable {P : Program} {w : World} {K : PySem.W.Frag} {mg : Str → Option Value} {base : Heap}
def odds : List PyData := [PyData.none, PyData.bool true, PyData.bool false, PyData.int 0, PyData.int 1, PyData.int (-1), PyData.int 5, PyData.int 999, PyData.int 1000, PyData.int 1001, PyData.int (10 ^ (30 : Int).toNat), PyData.str "", PyData.str "a", PyData.str "put", PyData.str "drop", PyData.str "low", PyData.str "high", PyData.str "group", PyData.tuple [], PyData.list [], PyData.tuple [PyData.int 1, PyData.int 2], PyData.tuple [PyData.tuple [PyData.int 1, PyData.int 2]], PyData.tuple [PyData.tuple [PyData.int 2, PyData.int 1], PyData.tuple [PyData.int 1, PyData.int 2]], PyData.list [PyData.tuple [PyData.int 1, PyData.int 2]], PyData.tuple [PyData.str "put", PyData.int 1, PyData.int 2], PyData.tuple [PyData.str "drop", PyData.int 1], PyData.tuple [PyData.none], PyData.tuple [PyData.str "low", PyData.int 1, PyData.int 0], PyData.tuple [PyData.str "group", PyData.tuple [PyData.tuple [PyData.str "put", PyData.int 1, PyData.int 2]]], PyData.tuple [PyData.tuple [PyData.str "put", PyData.int 1, PyData.int 2]], PyData.tuple [PyData.bool true, PyData.int 2], PyData.tuple [PyData.int 1, PyData.int (-1)]]
theorem odds_bd : odds.all (bdB 0 3) = true := by decide +kernel
theorem ok__law_odd (T : Txt K mg) : FnOk P w K mg base CX0 2 T.f__law_odd T.fd__law_odd ["bag"] (spOdd K) := by
  refine T.F__law_odd.ok sc__law_odd (fun vs H Q E h => ?_) (fun cdv A outer s H vs Q E hr h => ?_)
  · obtain ⟨b, rfl, _⟩ := h
    rfl
  · obtain ⟨b, rfl, hb, q⟩ := h
    have l0 : (0 : Nat) ≤ sizeLine := line_le (by decide)
    have l1 : (1 : Nat) ≤ sizeLine := line_le (by decide)
    have l2 : (2 : Nat) ≤ sizeLine := line_le (by decide)
    have l3 : (3 : Nat) ≤ sizeLine := line_le (by decide)
    have l5 : (5 : Nat) ≤ sizeLine := line_le (by decide)
    have l9 : (9 : Nat) ≤ sizeLine := line_le (by decide)
    have l18 : (18 : Nat) ≤ sizeLine := line_le (by decide)
    have g0 := Gr.refl hb
    refine ⟨_, (pss_cons (ps_set (i := 1) sc__law_odd.nd rfl (Or.inl rfl) (pe_lst (pa_cons pe_non (pa_cons pe_bl (pa_cons pe_bl (pa_cons pe_int (pa_cons pe_int (pa_cons (pe_un un_negG pe_int) (pa_cons pe_int (pa_cons pe_int (pa_cons pe_int (pa_cons pe_int (pa_cons (pe_op op_powG pe_int pe_int) (pa_cons pe_str (pa_cons pe_str (pa_cons pe_str (pa_cons pe_str (pa_cons pe_str (pa_cons pe_str (pa_cons pe_str pa_nil))))))))))))))))))))
      (pss_cons (ps_set (i := 1) sc__law_odd.nd rfl (Or.inl rfl) (pe_op (addK (K := K)) (pn 1) (pe_lst (pa_cons (pe_tup pa_nil) (pa_cons (pe_lst pa_nil) (pa_cons (pe_tup (pa_cons pe_int (pa_cons pe_int pa_nil))) (pa_cons (pe_tup (pa_cons (pe_tup (pa_cons pe_int (pa_cons pe_int pa_nil))) pa_nil)) (pa_cons (pe_tup (pa_cons (pe_tup (pa_cons pe_int (pa_cons pe_int pa_nil))) (pa_cons (pe_tup (pa_cons pe_int (pa_cons pe_int pa_nil))) pa_nil))) (pa_cons (pe_lst (pa_cons (pe_tup (pa_cons pe_int (pa_cons pe_int pa_nil))) pa_nil)) (pa_cons (pe_tup (pa_cons pe_str (pa_cons pe_int (pa_cons pe_int pa_nil)))) (pa_cons (pe_tup (pa_cons pe_str (pa_cons pe_int pa_nil))) (pa_cons (pe_tup (pa_cons pe_non pa_nil)) pa_nil))))))))))))
      (pss_cons (ps_set (i := 1) sc__law_odd.nd rfl (Or.inl rfl) (pe_op (addK (K := K)) (pn 1) (pe_lst (pa_cons (pe_tup (pa_cons pe_str (pa_cons pe_int (pa_cons pe_int pa_nil)))) (pa_cons (pe_tup (pa_cons pe_str (pa_cons (pe_tup (pa_cons (pe_tup (pa_cons pe_str (pa_cons pe_int (pa_cons pe_int pa_nil)))) pa_nil)) pa_nil))) (pa_cons (pe_tup (pa_cons (pe_tup (pa_cons pe_str (pa_cons pe_int (pa_cons pe_int pa_nil)))) pa_nil)) (pa_cons (pe_tup (pa_cons pe_bl (pa_cons pe_int pa_nil))) (pa_cons (pe_tup (pa_cons pe_int (pa_cons (pe_un un_negG pe_int) pa_nil))) pa_nil))))))))
      (pss_one (ps_ret (pe_ix (ixK (K := K)) (pn 1) (pe_call (ok__law_take T) hr (by rfl) T.g__law_take T.F__law_take.kp T.b__law_take .nil pass0 (pa_cons (pn 0) (pa_cons (pe_callB (lenK (K := K)) (by rfl) T.z_len Tc.boot_len (pa_cons (pn 1) pa_nil)) pa_nil))) (fun _ _ => rfl))))))), ?_⟩
    refine ⟨⟨by decide, by decide, by decide⟩, ?_⟩
    refine ⟨l18, fun p1 n1 => ?_⟩
    have y1 := mkAt (vs := [V.non, V.bl true, V.bl false, V.int 0, V.int 1, V.int (-1), V.int 5, V.int 999, V.int 1000, V.int 1001, V.int (10 ^ (30 : Int).toNat), V.str "", V.str "a", V.str "put", V.str "drop", V.str "low", V.str "high", V.str "group"]) hb g0 n1
    have run : DVs K (nw H H) [V.non, V.bl true, V.bl false, V.int 0, V.int 1, V.int (-1), V.int 5, V.int 999, V.int 1000, V.int 1001, V.int (10 ^ (30 : Int).toNat), V.str "", V.str "a", V.str "put", V.str "drop", V.str "low", V.str "high", V.str "group"] [PyData.none, PyData.bool true, PyData.bool false, PyData.int 0, PyData.int 1, PyData.int (-1), PyData.int 5, PyData.int 999, PyData.int 1000, PyData.int 1001, PyData.int (10 ^ (30 : Int).toNat), PyData.str "", PyData.str "a", PyData.str "put", PyData.str "drop", PyData.str "low", PyData.str "high", PyData.str "group"] := (DVs.cons (DV.non) (DVs.cons (DV.bl true) (DVs.cons (DV.bl false) (DVs.cons (DV.int 0) (DVs.cons (DV.int 1) (DVs.cons (DV.int (-1)) (DVs.cons (DV.int 5) (DVs.cons (DV.int 999) (DVs.cons (DV.int 1000) (DVs.cons (DV.int 1001) (DVs.cons (DV.int (10 ^ (30 : Int).toNat)) (DVs.cons (DV.str "") (DVs.cons (DV.str "a") (DVs.cons (DV.str "put") (DVs.cons (DV.str "drop") (DVs.cons (DV.str "low") (DVs.cons (DV.str "high") (DVs.cons (DV.str "group") DVs.nil))))))))))))))))))
    have k1 := Gr.new (o := .lst [V.non, V.bl true, V.bl false, V.int 0, V.int 1, V.int (-1), V.int 5, V.int 999, V.int 1000, V.int 1001, V.int (10 ^ (30 : Int).toNat), V.str "", V.str "a", V.str "put", V.str "drop", V.str "low", V.str "high", V.str "group"]) g0.1 n1
    have x1 := g0.1.ne n1
    have g1 := g0.trans k1
    have run := DVs.same (Gr.nws hb k1) run
    have some' := y1
    refine ⟨l0, fun p2 n2 => ?_⟩
    have q2 := mkTup (K := K) hb g1 n2 DVs.nil
    have k2 := Gr.new (o := .tup []) g1.1 n2
    have x2 := g1.1.ne n2
    have g2 := g1.trans k2
    have run := DVs.same (Gr.nws hb k2) run
    have some' := Gr.nws hb k2 _ _ some'
    refine ⟨l0, fun p3 n3 => ?_⟩
    have q3 := mkLst (K := K) hb g2 n3 DVs.nil
    have k3 := Gr.new (o := .lst []) g2.1 n3
    have x3 := g2.1.ne n3
    have g3 := g2.trans k3
    have run := DVs.same (Gr.nws hb k3) run
    have some' := Gr.nws hb k3 _ _ some'
    have q2 := DV.same (Gr.nws hb k3) q2
    refine ⟨l2, fun p4 n4 => ?_⟩
    have q4 := mkTup (K := K) hb g3 n4 (DVs.cons (DV.int 1) (DVs.cons (DV.int 2) DVs.nil))
    have k4 := Gr.new (o := .tup [V.int 1, V.int 2]) g3.1 n4
    have x4 := g3.1.ne n4
    have g4 := g3.trans k4
    have run := DVs.same (Gr.nws hb k4) run
    have some' := Gr.nws hb k4 _ _ some'
    have q2 := DV.same (Gr.nws hb k4) q2
    have q3 := DV.same (Gr.nws hb k4) q3
    refine ⟨l2, fun p5 n5 => ?_⟩
    have q5 := mkTup (K := K) hb g4 n5 (DVs.cons (DV.int 1) (DVs.cons (DV.int 2) DVs.nil))
    have k5 := Gr.new (o := .tup [V.int 1, V.int 2]) g4.1 n5
    have x5 := g4.1.ne n5
    have g5 := g4.trans k5
    have run := DVs.same (Gr.nws hb k5) run
    have some' := Gr.nws hb k5 _ _ some'
    have q2 := DV.same (Gr.nws hb k5) q2
    have q3 := DV.same (Gr.nws hb k5) q3
    have q4 := DV.same (Gr.nws hb k5) q4
    refine ⟨l1, fun p6 n6 => ?_⟩
    have q6 := mkTup (K := K) hb g5 n6 (DVs.cons (q5) DVs.nil)
    have k6 := Gr.new (o := .tup [V.ref p5]) g5.1 n6
    have x6 := g5.1.ne n6
    have g6 := g5.trans k6
    have run := DVs.same (Gr.nws hb k6) run
    have some' := Gr.nws hb k6 _ _ some'
    have q2 := DV.same (Gr.nws hb k6) q2
    have q3 := DV.same (Gr.nws hb k6) q3
    have q4 := DV.same (Gr.nws hb k6) q4
    refine ⟨l2, fun p7 n7 => ?_⟩
    have q7 := mkTup (K := K) hb g6 n7 (DVs.cons (DV.int 2) (DVs.cons (DV.int 1) DVs.nil))
    have k7 := Gr.new (o := .tup [V.int 2, V.int 1]) g6.1 n7
    have x7 := g6.1.ne n7
    have g7 := g6.trans k7
    have run := DVs.same (Gr.nws hb k7) run
    have some' := Gr.nws hb k7 _ _ some'
    have q2 := DV.same (Gr.nws hb k7) q2
    have q3 := DV.same (Gr.nws hb k7) q3
    have q4 := DV.same (Gr.nws hb k7) q4
    have q6 := DV.same (Gr.nws hb k7) q6
    refine ⟨l2, fun p8 n8 => ?_⟩
    have q8 := mkTup (K := K) hb g7 n8 (DVs.cons (DV.int 1) (DVs.cons (DV.int 2) DVs.nil))
    have k8 := Gr.new (o := .tup [V.int 1, V.int 2]) g7.1 n8
    have x8 := g7.1.ne n8
    have g8 := g7.trans k8
    have run := DVs.same (Gr.nws hb k8) run
    have some' := Gr.nws hb k8 _ _ some'
    have q2 := DV.same (Gr.nws hb k8) q2
    have q3 := DV.same (Gr.nws hb k8) q3
    have q4 := DV.same (Gr.nws hb k8) q4
    have q6 := DV.same (Gr.nws hb k8) q6
    have q7 := DV.same (Gr.nws hb k8) q7
    refine ⟨l2, fun p9 n9 => ?_⟩
    have q9 := mkTup (K := K) hb g8 n9 (DVs.cons (q7) (DVs.cons (q8) DVs.nil))
    have k9 := Gr.new (o := .tup [V.ref p7, V.ref p8]) g8.1 n9
    have x9 := g8.1.ne n9
    have g9 := g8.trans k9
    have run := DVs.same (Gr.nws hb k9) run
    have some' := Gr.nws hb k9 _ _ some'
    have q2 := DV.same (Gr.nws hb k9) q2
    have q3 := DV.same (Gr.nws hb k9) q3
    have q4 := DV.same (Gr.nws hb k9) q4
    have q6 := DV.same (Gr.nws hb k9) q6
    refine ⟨l2, fun p10 n10 => ?_⟩
    have q10 := mkTup (K := K) hb g9 n10 (DVs.cons (DV.int 1) (DVs.cons (DV.int 2) DVs.nil))
    have k10 := Gr.new (o := .tup [V.int 1, V.int 2]) g9.1 n10
    have x10 := g9.1.ne n10
    have g10 := g9.trans k10
    have run := DVs.same (Gr.nws hb k10) run
    have some' := Gr.nws hb k10 _ _ some'
    have q2 := DV.same (Gr.nws hb k10) q2
    have q3 := DV.same (Gr.nws hb k10) q3
    have q4 := DV.same (Gr.nws hb k10) q4
    have q6 := DV.same (Gr.nws hb k10) q6
    have q9 := DV.same (Gr.nws hb k10) q9
    refine ⟨l1, fun p11 n11 => ?_⟩
    have q11 := mkLst (K := K) hb g10 n11 (DVs.cons (q10) DVs.nil)
    have k11 := Gr.new (o := .lst [V.ref p10]) g10.1 n11
    have x11 := g10.1.ne n11
    have g11 := g10.trans k11
    have run := DVs.same (Gr.nws hb k11) run
    have some' := Gr.nws hb k11 _ _ some'
    have q2 := DV.same (Gr.nws hb k11) q2
    have q3 := DV.same (Gr.nws hb k11) q3
    have q4 := DV.same (Gr.nws hb k11) q4
    have q6 := DV.same (Gr.nws hb k11) q6
    have q9 := DV.same (Gr.nws hb k11) q9
    refine ⟨l3, fun p12 n12 => ?_⟩
    have q12 := mkTup (K := K) hb g11 n12 (DVs.cons (DV.str "put") (DVs.cons (DV.int 1) (DVs.cons (DV.int 2) DVs.nil)))
    have k12 := Gr.new (o := .tup [V.str "put", V.int 1, V.int 2]) g11.1 n12
    have x12 := g11.1.ne n12
    have g12 := g11.trans k12
    have run := DVs.same (Gr.nws hb k12) run
    have some' := Gr.nws hb k12 _ _ some'
    have q2 := DV.same (Gr.nws hb k12) q2
    have q3 := DV.same (Gr.nws hb k12) q3
    have q4 := DV.same (Gr.nws hb k12) q4
    have q6 := DV.same (Gr.nws hb k12) q6
    have q9 := DV.same (Gr.nws hb k12) q9
    have q11 := DV.same (Gr.nws hb k12) q11
    refine ⟨l2, fun p13 n13 => ?_⟩
    have q13 := mkTup (K := K) hb g12 n13 (DVs.cons (DV.str "drop") (DVs.cons (DV.int 1) DVs.nil))
    have k13 := Gr.new (o := .tup [V.str "drop", V.int 1]) g12.1 n13
    have x13 := g12.1.ne n13
    have g13 := g12.trans k13
    have run := DVs.same (Gr.nws hb k13) run
    have some' := Gr.nws hb k13 _ _ some'
    have q2 := DV.same (Gr.nws hb k13) q2
    have q3 := DV.same (Gr.nws hb k13) q3
    have q4 := DV.same (Gr.nws hb k13) q4
    have q6 := DV.same (Gr.nws hb k13) q6
    have q9 := DV.same (Gr.nws hb k13) q9
    have q11 := DV.same (Gr.nws hb k13) q11
    have q12 := DV.same (Gr.nws hb k13) q12
    refine ⟨l1, fun p14 n14 => ?_⟩
    have q14 := mkTup (K := K) hb g13 n14 (DVs.cons (DV.non) DVs.nil)
    have k14 := Gr.new (o := .tup [V.non]) g13.1 n14
    have x14 := g13.1.ne n14
    have g14 := g13.trans k14
    have run := DVs.same (Gr.nws hb k14) run
    have some' := Gr.nws hb k14 _ _ some'
    have q2 := DV.same (Gr.nws hb k14) q2
    have q3 := DV.same (Gr.nws hb k14) q3
    have q4 := DV.same (Gr.nws hb k14) q4
    have q6 := DV.same (Gr.nws hb k14) q6
    have q9 := DV.same (Gr.nws hb k14) q9
    have q11 := DV.same (Gr.nws hb k14) q11
    have q12 := DV.same (Gr.nws hb k14) q12
    have q13 := DV.same (Gr.nws hb k14) q13
    refine ⟨l9, fun p15 n15 => ?_⟩
    have y15 := mkAt (vs := [V.ref p2, V.ref p3, V.ref p4, V.ref p6, V.ref p9, V.ref p11, V.ref p12, V.ref p13, V.ref p14]) hb g14 n15
    have run := DVs.append run (DVs.cons (q2) (DVs.cons (q3) (DVs.cons (q4) (DVs.cons (q6) (DVs.cons (q9) (DVs.cons (q11) (DVs.cons (q12) (DVs.cons (q13) (DVs.cons (q14) DVs.nil)))))))))
    have k15 := Gr.new (o := .lst [V.ref p2, V.ref p3, V.ref p4, V.ref p6, V.ref p9, V.ref p11, V.ref p12, V.ref p13, V.ref p14]) g14.1 n15
    have x15 := g14.1.ne n15
    have g15 := g14.trans k15
    have run := DVs.same (Gr.nws hb k15) run
    have some' := Gr.nws hb k15 _ _ some'
    refine Or.inl ⟨_, _, _, _, rfl, rfl, (nw_some some').2, (nw_some y15).2, line_le (by show 18 + 9 ≤ 100000; decide), fun p16 n16 => ?_⟩
    have some' := mkAt (vs := [V.non, V.bl true, V.bl false, V.int 0, V.int 1, V.int (-1), V.int 5, V.int 999, V.int 1000, V.int 1001, V.int (10 ^ (30 : Int).toNat), V.str "", V.str "a", V.str "put", V.str "drop", V.str "low", V.str "high", V.str "group", V.ref p2, V.ref p3, V.ref p4, V.ref p6, V.ref p9, V.ref p11, V.ref p12, V.ref p13, V.ref p14]) hb g15 n16
    have k16 := Gr.new (o := .lst [V.non, V.bl true, V.bl false, V.int 0, V.int 1, V.int (-1), V.int 5, V.int 999, V.int 1000, V.int 1001, V.int (10 ^ (30 : Int).toNat), V.str "", V.str "a", V.str "put", V.str "drop", V.str "low", V.str "high", V.str "group", V.ref p2, V.ref p3, V.ref p4, V.ref p6, V.ref p9, V.ref p11, V.ref p12, V.ref p13, V.ref p14]) g15.1 n16
    have x16 := g15.1.ne n16
    have g16 := g15.trans k16
    have run := DVs.same (Gr.nws hb k16) run
    refine ⟨l3, fun p17 n17 => ?_⟩
    have q17 := mkTup (K := K) hb g16 n17 (DVs.cons (DV.str "low") (DVs.cons (DV.int 1) (DVs.cons (DV.int 0) DVs.nil)))
    have k17 := Gr.new (o := .tup [V.str "low", V.int 1, V.int 0]) g16.1 n17
    have x17 := g16.1.ne n17
    have g17 := g16.trans k17
    have run := DVs.same (Gr.nws hb k17) run
    have some' := Gr.nws hb k17 _ _ some'
    refine ⟨l3, fun p18 n18 => ?_⟩
    have q18 := mkTup (K := K) hb g17 n18 (DVs.cons (DV.str "put") (DVs.cons (DV.int 1) (DVs.cons (DV.int 2) DVs.nil)))
    have k18 := Gr.new (o := .tup [V.str "put", V.int 1, V.int 2]) g17.1 n18
    have x18 := g17.1.ne n18
    have g18 := g17.trans k18
    have run := DVs.same (Gr.nws hb k18) run
    have some' := Gr.nws hb k18 _ _ some'
    have q17 := DV.same (Gr.nws hb k18) q17
    refine ⟨l1, fun p19 n19 => ?_⟩
    have q19 := mkTup (K := K) hb g18 n19 (DVs.cons (q18) DVs.nil)
    have k19 := Gr.new (o := .tup [V.ref p18]) g18.1 n19
    have x19 := g18.1.ne n19
    have g19 := g18.trans k19
    have run := DVs.same (Gr.nws hb k19) run
    have some' := Gr.nws hb k19 _ _ some'
    have q17 := DV.same (Gr.nws hb k19) q17
    refine ⟨l2, fun p20 n20 => ?_⟩
    have q20 := mkTup (K := K) hb g19 n20 (DVs.cons (DV.str "group") (DVs.cons (q19) DVs.nil))
    have k20 := Gr.new (o := .tup [V.str "group", V.ref p19]) g19.1 n20
    have x20 := g19.1.ne n20
    have g20 := g19.trans k20
    have run := DVs.same (Gr.nws hb k20) run
    have some' := Gr.nws hb k20 _ _ some'
    have q17 := DV.same (Gr.nws hb k20) q17
    refine ⟨l3, fun p21 n21 => ?_⟩
    have q21 := mkTup (K := K) hb g20 n21 (DVs.cons (DV.str "put") (DVs.cons (DV.int 1) (DVs.cons (DV.int 2) DVs.nil)))
    have k21 := Gr.new (o := .tup [V.str "put", V.int 1, V.int 2]) g20.1 n21
    have x21 := g20.1.ne n21
    have g21 := g20.trans k21
    have run := DVs.same (Gr.nws hb k21) run
    have some' := Gr.nws hb k21 _ _ some'
    have q17 := DV.same (Gr.nws hb k21) q17
    have q20 := DV.same (Gr.nws hb k21) q20
    refine ⟨l1, fun p22 n22 => ?_⟩
    have q22 := mkTup (K := K) hb g21 n22 (DVs.cons (q21) DVs.nil)
    have k22 := Gr.new (o := .tup [V.ref p21]) g21.1 n22
    have x22 := g21.1.ne n22
    have g22 := g21.trans k22
    have run := DVs.same (Gr.nws hb k22) run
    have some' := Gr.nws hb k22 _ _ some'
    have q17 := DV.same (Gr.nws hb k22) q17
    have q20 := DV.same (Gr.nws hb k22) q20
    refine ⟨l2, fun p23 n23 => ?_⟩
    have q23 := mkTup (K := K) hb g22 n23 (DVs.cons (DV.bl true) (DVs.cons (DV.int 2) DVs.nil))
    have k23 := Gr.new (o := .tup [V.bl true, V.int 2]) g22.1 n23
    have x23 := g22.1.ne n23
    have g23 := g22.trans k23
    have run := DVs.same (Gr.nws hb k23) run
    have some' := Gr.nws hb k23 _ _ some'
    have q17 := DV.same (Gr.nws hb k23) q17
    have q20 := DV.same (Gr.nws hb k23) q20
    have q22 := DV.same (Gr.nws hb k23) q22
    refine ⟨l2, fun p24 n24 => ?_⟩
    have q24 := mkTup (K := K) hb g23 n24 (DVs.cons (DV.int 1) (DVs.cons (DV.int (-1)) DVs.nil))
    have k24 := Gr.new (o := .tup [V.int 1, V.int (-1)]) g23.1 n24
    have x24 := g23.1.ne n24
    have g24 := g23.trans k24
    have run := DVs.same (Gr.nws hb k24) run
    have some' := Gr.nws hb k24 _ _ some'
    have q17 := DV.same (Gr.nws hb k24) q17
    have q20 := DV.same (Gr.nws hb k24) q20
    have q22 := DV.same (Gr.nws hb k24) q22
    have q23 := DV.same (Gr.nws hb k24) q23
    refine ⟨l5, fun p25 n25 => ?_⟩
    have y25 := mkAt (vs := [V.ref p17, V.ref p20, V.ref p22, V.ref p23, V.ref p24]) hb g24 n25
    have run := DVs.append run (DVs.cons (q17) (DVs.cons (q20) (DVs.cons (q22) (DVs.cons (q23) (DVs.cons (q24) DVs.nil)))))
    have k25 := Gr.new (o := .lst [V.ref p17, V.ref p20, V.ref p22, V.ref p23, V.ref p24]) g24.1 n25
    have x25 := g24.1.ne n25
    have g25 := g24.trans k25
    have run := DVs.same (Gr.nws hb k25) run
    have some' := Gr.nws hb k25 _ _ some'
    refine Or.inl ⟨_, _, _, _, rfl, rfl, (nw_some some').2, (nw_some y25).2, line_le (by show 27 + 5 ≤ 100000; decide), fun p26 n26 => ?_⟩
    have some' := mkAt (vs := [V.non, V.bl true, V.bl false, V.int 0, V.int 1, V.int (-1), V.int 5, V.int 999, V.int 1000, V.int 1001, V.int (10 ^ (30 : Int).toNat), V.str "", V.str "a", V.str "put", V.str "drop", V.str "low", V.str "high", V.str "group", V.ref p2, V.ref p3, V.ref p4, V.ref p6, V.ref p9, V.ref p11, V.ref p12, V.ref p13, V.ref p14, V.ref p17, V.ref p20, V.ref p22, V.ref p23, V.ref p24]) hb g25 n26
    have k26 := Gr.new (o := .lst [V.non, V.bl true, V.bl false, V.int 0, V.int 1, V.int (-1), V.int 5, V.int 999, V.int 1000, V.int 1001, V.int (10 ^ (30 : Int).toNat), V.str "", V.str "a", V.str "put", V.str "drop", V.str "low", V.str "high", V.str "group", V.ref p2, V.ref p3, V.ref p4, V.ref p6, V.ref p9, V.ref p11, V.ref p12, V.ref p13, V.ref p14, V.ref p17, V.ref p20, V.ref p22, V.ref p23, V.ref p24]) g25.1 n26
    have x26 := g25.1.ne n26
    have g26 := g25.trans k26
    have run := DVs.same (Gr.nws hb k26) run
    refine ⟨_, .inl (SqL.of (nw_some some').2), ?_⟩
    refine ⟨b, 32, rfl, g26.1, by decide, by decide, fun r H1 r0 r1 gz => ?_⟩
    have some' := Gr.nws hb gz _ _ some'
    have run := DVs.same (Gr.nws hb gz) run
    obtain ⟨v, e1, e2⟩ := pickV _ r0 (show r < ((([V.non, V.bl true, V.bl false, V.int 0, V.int 1, V.int (-1), V.int 5, V.int 999, V.int 1000, V.int 1001, V.int (10 ^ (30 : Int).toNat), V.str "", V.str "a", V.str "put", V.str "drop", V.str "low", V.str "high", V.str "group", V.ref p2, V.ref p3, V.ref p4, V.ref p6, V.ref p9, V.ref p11, V.ref p12, V.ref p13, V.ref p14, V.ref p17, V.ref p20, V.ref p22, V.ref p23, V.ref p24] : List V).length : Nat) : Int) from r1)
    obtain ⟨d, e3, e4⟩ := DVs.get run e1
    refine ⟨_, v, .inl (SqL.of (nw_some some').2), e2, q v d H1 (bdB_ok (List.all_eq_true.mp odds_bd d (List.mem_of_getElem? e3))) (g26.trans gz) e4⟩

end

section
variable {P : Program} {w : World} {K : PySem.W.Frag} {mg : Str → Option Value} {base : Heap}
set_option maxHeartbeats 1000000 in
theorem ok_spoilt_aux (T : Txt K mg) : ∀ k : Nat, FnOk P w K mg base CX0 (k + 3) T.f__law_spoilt T.fd__law_spoilt ["bag", "thing"] (spSpoilt K k)
  | 0 => by
    refine T.F__law_spoilt.ok sc__law_spoilt (fun vs H Q E h => ?_) (fun cdv A outer s H vs Q E hr h => ?_)
    · obtain ⟨b, v, d, n, j, R, rfl, _⟩ := h
      rfl
    · obtain ⟨b, v, d, n, j, R, rfl, _, _, _, _, h, _⟩ := h
      exact absurd h (Nat.not_lt_zero _)
  | k + 1 => by
    have ih := ok_spoilt_aux T k
    refine T.F__law_spoilt.ok sc__law_spoilt (fun vs H Q E h => ?_) (fun cdv A outer s H vs Q E hr h => ?_)
    · obtain ⟨b, v, d, n, j, R, rfl, _⟩ := h
      rfl
    · obtain ⟨b, v, d, n, j, R, rfl, hb, hR, hd, bd, lt, n7, q⟩ := h
      have hr3 : Room (k + 3) _ := hr
      have l1 : (1 : Nat) ≤ sizeLine := line_le (by decide)
      have l2 : (2 : Nat) ≤ sizeLine := line_le (by decide)
      have l7 : (7 : Nat) ≤ sizeLine := line_le (by decide)
      have pw : 3 ^ n ≤ 3 ^ 7 := Nat.pow_le_pow_right (by decide) n7
      have p7 : 3 ^ 7 = 2187 := by decide
      have ps : 3 ^ (n + 1) = 3 * 3 ^ n := by rw [Nat.pow_succ, Nat.mul_comm]
      have p1 : 1 ≤ 3 ^ n := Nat.one_le_pow _ _ (by decide)
      refine ⟨_, (pss_cons (ps_set (i := 2) sc__law_spoilt.nd rfl (Or.inl rfl) (pe_call (ok__law_take T) (hr3.mono (by omega)) (by rfl) T.g__law_take T.F__law_take.kp T.b__law_take .nil pass0 (pa_cons (pn 0) (pa_cons pe_int pa_nil))))
      (pss_cons (ps_if (PW.pt (pw_and (truK (K := K) (pe_callB (isiK (K := K)) (by rfl) T.z_isinstance Tc.boot_isinstance (pa_cons (pn 1) (pa_cons (pe_tup (pa_cons (pe_bltn (v := .ty "tuple") (by rfl) T.z_tuple Tc.boot_tuple rfl) (pa_cons (pe_bltn (v := .ty "list") (by rfl) T.z_list Tc.boot_list rfl) pa_nil))) pa_nil)))) (pw_and (pt_cmpG op_gtG (pe_callB (lenK (K := K)) (by rfl) T.z_len Tc.boot_len (pa_cons (pn 1) pa_nil)) pe_int (nomark _)) (pw_and1 (pt_cmpG op_gtG (pn 2) pe_int (nomark _))))))
      (pss_cons (ps_set (i := 3) sc__law_spoilt.nd rfl (Or.inl rfl) (pe_callTy (listK (K := K)) (by rfl) T.z_list Tc.boot_list (pa_cons (pn 1) pa_nil)))
      (pss_cons (ps_set (i := 4) sc__law_spoilt.nd rfl (Or.inl rfl) (pe_call (ok__law_take T) (hr3.mono (by omega)) (by rfl) T.g__law_take T.F__law_take.kp T.b__law_take .nil pass0 (pa_cons (pn 0) (pa_cons (pe_callB (lenK (K := K)) (by rfl) T.z_len Tc.boot_len (pa_cons (pn 3) pa_nil)) pa_nil))))
      (pss_cons (ps_if (pt_cmpG (eqK (K := K) hr.units) (pn 2) pe_int (nomark _))
      (pss_one (ps_set (i := 3) sc__law_spoilt.nd rfl (Or.inl rfl) (pe_op (addK (K := K)) (pe_slice (slK (K := K)) (pn 3) po_none (po_G (pn 4))) (pe_slice (slK (K := K)) (pn 3) (po_G (pe_op (addK (K := K)) (pn 4) pe_int)) po_none))))
      (pss_one (ps_if (pt_cmpG (eqK (K := K) hr.units) (pn 2) pe_int (nomark _))
      (pss_one (ps_set (i := 3) sc__law_spoilt.nd rfl (Or.inl rfl) (pe_op (addK (K := K)) (pe_slice (slK (K := K)) (pn 3) po_none (po_G (pe_op (addK (K := K)) (pn 4) pe_int))) (pe_slice (slK (K := K)) (pn 3) (po_G (pn 4)) po_none))))
      (pss_one (ps_if (pt_cmpG (eqK (K := K) hr.units) (pn 2) pe_int (nomark _))
      (pss_cons (ps_set (i := 5) sc__law_spoilt.nd rfl (Or.inl rfl) (pe_call (ok__law_take T) (hr3.mono (by omega)) (by rfl) T.g__law_take T.F__law_take.kp T.b__law_take .nil pass0 (pa_cons (pn 0) (pa_cons (pe_callB (lenK (K := K)) (by rfl) T.z_len Tc.boot_len (pa_cons (pn 3) pa_nil)) pa_nil))))
      (pss_one (ps_asg (pe_tup (pa_cons (pe_ix (ixK (K := K)) (pn 3) (pn 5) (fun _ _ => rfl)) (pa_cons (pe_ix (ixK (K := K)) (pn 3) (pn 4) (fun _ _ => rfl)) pa_nil))) (tupTK (K := K) (n := 2) rfl (pgs_cons (pg_sub (pn 3) (pn 4) set_list) (pgs_cons (pg_sub (pn 3) (pn 5) set_list) pgs_nil))))))
      (pss_one (ps_if (pt_cmpG (eqK (K := K) hr.units) (pn 2) pe_int (nomark _))
      (pss_one (ps_ret (pe_ifExp (truK (K := K) (pe_callB (isiK (K := K)) (by rfl) T.z_isinstance Tc.boot_isinstance (pa_cons (pn 1) (pa_cons (pe_bltn (v := .ty "tuple") (by rfl) T.z_tuple Tc.boot_tuple rfl) pa_nil)))) (pn 3) (pe_callTy (tupleK (K := K)) (by rfl) T.z_tuple Tc.boot_tuple (pa_cons (pn 3) pa_nil)))))
      (pss_one (ps_asg (pe_call ih (hr3.mono (by omega)) (by rfl) T.g__law_spoilt T.F__law_spoilt.kp T.b__law_spoilt .nil pass0 (pa_cons (pn 0) (pa_cons (pe_ix (ixK (K := K)) (pn 3) (pn 4) (fun _ _ => rfl)) pa_nil))) (pg_sub (pn 3) (pn 4) set_list))))))))))
      (pss_one (ps_ret (pe_ifExp (truK (K := K) (pe_callB (isiK (K := K)) (by rfl) T.z_isinstance Tc.boot_isinstance (pa_cons (pn 1) (pa_cons (pe_bltn (v := .ty "tuple") (by rfl) T.z_tuple Tc.boot_tuple rfl) pa_nil)))) (pe_callTy (tupleK (K := K)) (by rfl) T.z_tuple Tc.boot_tuple (pa_cons (pn 3) pa_nil)) (pn 3)))))))
      pss_nil)
      (pss_cons (ps_if (PW.pt (pw_and (truK (K := K) (pe_callB (isiK (K := K)) (by rfl) T.z_isinstance Tc.boot_isinstance (pa_cons (pn 1) (pa_cons (pe_bltn (v := .ty "str") (by rfl) T.z_str Tc.boot_str rfl) pa_nil)))) (pw_and1 (pt_cmpG op_gtG (pn 2) pe_int (nomark _)))))
      (pss_one (ps_ret (pe_ix (ixK (K := K)) (pe_lst (pa_cons (pe_op (addK (K := K)) (pn 1) pe_str) (pa_cons (pe_slice (slK (K := K)) (pn 1) po_none (po_G (pe_un un_negG pe_int))) (pa_cons (pe_op (addK (K := K)) (pn 1) pe_str) (pa_cons (pe_upper (pn 1)) (pa_cons (pe_op (addK (K := K)) (pn 1) (pn 1)) (pa_cons (pe_op (addK (K := K)) pe_str (pn 1)) (pa_cons pe_str pa_nil)))))))) (pe_op op_subG (pn 2) pe_int) (fun _ _ => rfl))))
      pss_nil)
      (pss_cons (ps_if (PW.pt (pw_and (truK (K := K) (pe_callB (isiK (K := K)) (by rfl) T.z_isinstance Tc.boot_isinstance (pa_cons (pn 1) (pa_cons (pe_bltn (v := .ty "int") (by rfl) T.z_int Tc.boot_int rfl) pa_nil)))) (pw_and1 (pt_cmpG op_gtG (pn 2) pe_int (nomark _)))))
      (pss_one (ps_ret (pe_ix (ixK (K := K)) (pe_lst (pa_cons (pe_op (addK (K := K)) (pn 1) pe_int) (pa_cons (pe_op op_subG (pn 1) pe_int) (pa_cons (pe_un un_negG (pn 1)) (pa_cons (pe_op (addK (K := K)) (pn 1) pe_int) (pa_cons (pe_callTy call_strG (by rfl) T.z_str Tc.boot_str (pa_cons (pn 1) pa_nil)) (pa_cons (pe_op (addK (K := K)) (pn 1) pe_int) (pa_cons (pe_tup (pa_cons (pn 1) pa_nil)) pa_nil)))))))) (pe_op op_subG (pn 2) pe_int) (fun _ _ => rfl))))
      pss_nil)
      (pss_one (ps_ret (pe_call (ok__law_odd T) (hr3.mono (by omega)) (by rfl) T.g__law_odd T.F__law_odd.kp T.b__law_odd .nil pass0 (pa_cons (pn 0) pa_nil)))))))), ?_⟩
      refine ⟨b, 9, rfl, hb, by decide, by decide, fun way H1 w0 w1 g1 => ?_⟩
      have R1 : Same R (off b H1) := fun a o e => g1.same a o (hR a o e)
      -- a thing of any kind
      have odd : ∀ (H' : Hp), Gr b H H' → tCall (spOdd K) [] E0 (tCons (tV 0) tNil) [some (.ref b), some v, some (.int way), none, none, none] H' Q := fun H' g =>
        ⟨b, rfl, g.1, fun v' d' H2 bd' g2 dv' => q v' d' H2 ((show Bd (n + 1) 3 d' from by
          have up : ∀ m, Bd m 3 d' := fun m => by
            induction m with
            | zero => exact bd'
            | succ m ih => exact ih.up
          exact up _).deeper (by omega)) (g.trans g2) (DV.same (fun a o e => by
            obtain ⟨h, e⟩ := nw_some e
            exact jn_new (g.free hb h) e) dv')⟩
      -- one of seven
      have seven : ∀ (H' : Hp) (vs : List V) (ds : List PyData), Gr b H H' → vs.length = 7 → DVs K (jn H R H') vs ds → (∀ x ∈ ds, Bd (n + 1) (j + 3) x) → 1 < way → ∀ p, H' p = none →
          rIxG K (.ref p) (.int (way - 2)) (upd H' p (.lst vs)) Q := fun H' vs ds g len dv hb' h1 p hp => by
        have g' := g.trans (Gr.new (o := .lst vs) g.1 hp)
        obtain ⟨x, e1, e2⟩ := pickV vs (r := way - 2) (by omega) (by rw [len]; omega)
        obtain ⟨y, e3, e4⟩ := dv.get e1
        exact ⟨vs, x, .inl (SqL.of upd_same), e2, q x y _ (hb' y (List.mem_of_getElem? e3)) g' (DV.same (jn_step hb hR (Gr.refl hb) fun a o h e => by
          rw [upd_ne (ne_of_none e hp)]; exact e) e4)⟩
      -- a list or tuple
      have hd0 := hd
      cases hd with
      | non =>
        refine ⟨l2, fun t ht => ⟨_, .tuple, .list, .non, upd_same, ?_⟩⟩
        refine ⟨_, .str, .non, rfl, ?_⟩
        exact ⟨_, .int, .non, rfl, odd _ (g1.trans (Gr.new g1.1 ht))⟩
      | bl bb =>
        refine ⟨l2, fun t ht => ⟨_, .tuple, .list, .bl bb, upd_same, ?_⟩⟩
        have g2 := g1.trans (Gr.new (o := .tup [.ty "tuple", .ty "list"]) g1.1 ht)
        refine ⟨_, .str, .bl bb, rfl, ?_⟩
        refine ⟨_, .int, .bl bb, rfl, ite2 (fun e => ?_) (fun e => odd _ g2)⟩
        refine ⟨l1, fun t2 ht2 => ⟨l7, fun p hp => ?_⟩⟩
        have g3 := g2.trans (Gr.new (o := .tup [.bl bb]) g2.1 ht2)
        refine seven _ _ [.int _, .int _, .int _, .int _, .str _, .int _, .tuple [.bool bb]] g3 rfl (.cons (.int _) (.cons (.int _) (.cons (.int _) (.cons (.int _) (.cons (.str _) (.cons (.int _)
          (.cons (.tup (.inl (.inl (jn_new (g2.free hb ht2) upd_same))) (.cons (.bl bb) .nil)) .nil))))))) ?_ (of_decide_eq_true e) p hp
        refine mem7 (Bd.int ?_) (Bd.int ?_) (Bd.int ?_) (Bd.int ?_) (Bd.str ?_) (Bd.int ?_) ((Bd.tuple (k := 0) (by show 1 ≤ _; omega) fun x hx => by cases List.mem_singleton.mp hx; exact Bd.leaf trivial).deeper (by omega))
        · cases bb <;> (show Int.natAbs _ ≤ _) <;> simp <;> omega
        · cases bb <;> (show Int.natAbs _ ≤ _) <;> simp <;> omega
        · cases bb <;> (show Int.natAbs _ ≤ _) <;> simp <;> omega
        · cases bb <;> (show Int.natAbs _ ≤ _) <;> simp <;> omega
        · have h4 : (4 : Nat) ≤ 2000 * 3 ^ (n + 1) := by omega
          have h5 : (5 : Nat) ≤ 2000 * 3 ^ (n + 1) := by omega
          cases bb
          · exact h5
          · exact h4
        · cases bb <;> (show Int.natAbs _ ≤ _) <;> simp <;> omega
      | int i =>
        have bi := bd.unint
        have bi2 : i.natAbs < 2 ^ 200 := by omega
        have lg := PySem.Flt.log2_lt_of (by decide : 0 < 200) bi2
        refine ⟨l2, fun t ht => ⟨_, .tuple, .list, .int i, upd_same, ?_⟩⟩
        have g2 := g1.trans (Gr.new (o := .tup [.ty "tuple", .ty "list"]) g1.1 ht)
        refine ⟨_, .str, .int i, rfl, ?_⟩
        refine ⟨_, .int, .int i, rfl, ite2 (fun e => ?_) (fun e => odd _ g2)⟩
        refine ⟨by omega, l1, fun t2 ht2 => ⟨l7, fun p hp => ?_⟩⟩
        have g3 := g2.trans (Gr.new (o := .tup [.int i]) g2.1 ht2)
        refine seven _ _ [.int _, .int _, .int _, .int _, .str _, .int _, .tuple [.int i]] g3 rfl (.cons (.int _) (.cons (.int _) (.cons (.int _) (.cons (.int _) (.cons (.str _) (.cons (.int _)
          (.cons (.tup (.inl (.inl (jn_new (g2.free hb ht2) upd_same))) (.cons (.int i) .nil)) .nil))))))) ?_ (of_decide_eq_true e) p hp
        have tl := PyProof.Rows.int_text_len_1921 (i := i) (by omega)
        refine mem7 (Bd.int ?_) (Bd.int ?_) (Bd.int ?_) (Bd.int ?_) (Bd.str (by omega)) (Bd.int ?_) ((Bd.tuple (k := 0) (by show 1 ≤ _; omega) fun x hx => by cases List.mem_singleton.mp hx; exact Bd.int (by omega)).deeper (by omega))
        all_goals omega
      | str z =>
        have bz := bd.unstr
        have line : sizeLine = 16777216 := sizeLine_eq
        refine ⟨l2, fun t ht => ⟨_, .tuple, .list, .str z, upd_same, ?_⟩⟩
        have g2 := g1.trans (Gr.new (o := .tup [.ty "tuple", .ty "list"]) g1.1 ht)
        refine ⟨_, .str, .str z, rfl, ite2 (fun e => ?_) (fun e => ?_)⟩
        · have la : ("a" : Str).length = 1 := rfl
          have lb : (" " : Str).length = 1 := rfl
          have lz : ("z" : Str).length = 1 := rfl
          refine ⟨by omega, by omega, by omega, ⟨_, rfl⟩, z, rfl, rfl, by omega, by omega, by omega, l7, fun p hp => ?_⟩
          refine seven _ _ [.str _, .str _, .str _, .str _, .str _, .str _, .str ""] g2 rfl (.cons (.str _) (.cons (.str _) (.cons (.str _) (.cons (.str _) (.cons (.str _) (.cons (.str _) (.cons (.str _) .nil))))))) ?_ (of_decide_eq_true e) p hp
          have lu := PyProof.Rows.len_upper z
          have lc := cutS_length z none (some (-1))
          refine mem7 (Bd.str ?_) (Bd.str (by omega)) (Bd.str ?_) (Bd.str (by omega)) (Bd.str ?_) (Bd.str ?_) (Bd.str (Nat.zero_le _))
          all_goals (first | rw [PySem.Str.length_append] | skip)
          all_goals omega
        · exact ⟨_, .int, .str z, rfl, odd _ g2⟩
      | @lst a xs ds hs ha =>
        obtain ⟨j', rfl, few, bx⟩ := bd.unlist
        have sqR : Sq K R a xs := .inl (SqL.of hs)
        have RD : ∀ H', Gr b H H' → Same R (off b H') := fun H' g a o e => g.same a o (hR a o e)
        have RS : ∀ H', Gr b H H' → Same R H' := fun H' g a o e => off_same _ _ (RD H' g a o e)
        have len := ha.length
        have grow : ∀ (H' : Hp) (l : Addr) (o : HO), H' l = none → Same (jn H R H') (jn H R (upd H' l o)) := fun H' l o hl => jn_step hb hR (Gr.refl hb) fun a u h e => by
          rw [upd_ne (ne_of_none e hl)]; exact e
        have fin : ∀ (H' : Hp) (pp : Addr) (vs : List V) (es : List PyData) (x4 x5 : Option V), Gr b H H' → H' pp = some (.lst vs) → H pp = none → DVs K (jn H R H') vs es → es.length ≤ 120 + (n + 1) → (∀ x ∈ es, Bd (n + 1) (j' + 3) x) →
            tIf (tTruG K (tCB (rIsiD K) (tCons (tV 1) (tCons (tC (.ty "tuple")) tNil)))) (tCB (rTupleG K) (tCons (tV 3) tNil)) (tV 3) [some (.ref b), some (.ref a), some (.int way), some (.ref pp), x4, x5] H' Q := fun H' pp vs es x4 x5 g e hpp dv le be => by
          refine ⟨_, .tuple, DV.same (RS H' g) hd0, rfl, ?_⟩
          exact q (.ref pp) (.list es) H' (Bd.list le be) g (.lst (jn_new hpp e) dv)
        refine ⟨l2, fun t ht => ?_⟩
        have g2 := g1.trans (Gr.new (o := .tup [.ty "tuple", .ty "list"]) g1.1 ht)
        refine ⟨_, .tuple, .list, DV.same (RS _ g2) hd0, upd_same, ?_⟩
        have sq2 := Sq.same (RS _ g2) sqR
        refine ⟨xs, sq2, ite2 (fun e => ?_) (fun e => ?_)⟩
        · refine ite2 (fun e' => ?_) (fun e' => ?_)
          · have pos : (0 : Int) < (xs.length : Nat) := of_decide_eq_true e
            have lx : xs.length ≤ 120 + n := by omega
            refine ⟨xs, sq2, fun p hp => ?_⟩
            have g3 := g2.trans (Gr.new (o := .lst xs) g2.1 hp)
            have np := g2.1.ne hp
            have hp0 := g2.free hb hp
            refine ⟨xs, .inl (SqL.of upd_same), b, _, rfl, g3.1, pos, by omega, fun at' H4 r0 r1 g4 => ?_⟩
            have e4 := g4.2 _ _ np upd_same
            have G4 := g3.trans g4
            have dv4 : ∀ H', Gr b H H' → DVs K (jn H R H') xs ds := fun H' g => DVs.same (jn_old hR) ha
            have bx' : ∀ x ∈ ds, Bd (n + 1) (j' + 3) x := fun x hx => (bx x hx).up.deeper (by omega)
            have put : ∀ (H' : Hp) (vs : List V), Gr b H H' → H' p = some (.lst xs) → Gr b H (upd H' p (.lst vs)) := fun H' vs g _ => g.put np hp0
            refine ite2 (fun e1 => ?_) (fun e1 => ?_)
            · -- one part gone
              refine Or.inl ⟨xs, SqL.of e4, fun q1 hq1 => ?_⟩
              have e5 := same_upd (o := .lst (cutV xs none (some at'))) hq1 _ _ e4
              have G5 := G4.trans (Gr.new (o := .lst (cutV xs none (some at'))) G4.1 hq1)
              refine Or.inl ⟨xs, SqL.of e5, fun q2 hq2 => ?_⟩
              have G6 := G5.trans (Gr.new (o := .lst (cutV xs (some (at' + 1)) none)) G5.1 hq2)
              have c1 := cut_lo xs at' r0 (by omega)
              have c2 := cut_hi xs (at' + 1) (by omega) (by omega)
              refine Or.inl ⟨q1, q2, _, _, rfl, rfl, same_upd hq2 _ _ upd_same, upd_same, line_le (by rw [c1, c2, List.length_take, List.length_drop]; omega), fun q3 hq3 => ?_⟩
              have G7 := G6.trans (Gr.new (o := .lst (cutV xs none (some at') ++ cutV xs (some (at' + 1)) none)) G6.1 hq3)
              refine fin _ q3 _ (ds.take at'.toNat ++ ds.drop (at' + 1).toNat) _ _ G7 upd_same (G6.free hb hq3) ?_ ?_ (fun x hx => ?_)
              · have z := ((dv4 _ G7).take at'.toNat).append ((dv4 _ G7).drop (at' + 1).toNat)
                rw [← c1, ← c2] at z
                exact z
              · rw [List.length_append, List.length_take, List.length_drop]; omega
              · rcases List.mem_append.mp hx with hx | hx
                · exact bx' x (List.mem_of_mem_take hx)
                · exact bx' x (List.mem_of_mem_drop hx)
            refine ite2 (fun e2 => ?_) (fun e2 => ?_)
            · -- one part twice
              refine Or.inl ⟨xs, SqL.of e4, fun q1 hq1 => ?_⟩
              have e5 := same_upd (o := .lst (cutV xs none (some (at' + 1)))) hq1 _ _ e4
              have G5 := G4.trans (Gr.new (o := .lst (cutV xs none (some (at' + 1)))) G4.1 hq1)
              refine Or.inl ⟨xs, SqL.of e5, fun q2 hq2 => ?_⟩
              have G6 := G5.trans (Gr.new (o := .lst (cutV xs (some at') none)) G5.1 hq2)
              have c1 := cut_lo xs (at' + 1) (by omega) (by omega)
              have c2 := cut_hi xs at' r0 (by omega)
              refine Or.inl ⟨q1, q2, _, _, rfl, rfl, same_upd hq2 _ _ upd_same, upd_same, line_le (by rw [c1, c2, List.length_take, List.length_drop]; omega), fun q3 hq3 => ?_⟩
              have G7 := G6.trans (Gr.new (o := .lst (cutV xs none (some (at' + 1)) ++ cutV xs (some at') none)) G6.1 hq3)
              refine fin _ q3 _ (ds.take (at' + 1).toNat ++ ds.drop at'.toNat) _ _ G7 upd_same (G6.free hb hq3) ?_ ?_ (fun x hx => ?_)
              · have z := ((dv4 _ G7).take (at' + 1).toNat).append ((dv4 _ G7).drop at'.toNat)
                rw [← c1, ← c2] at z
                exact z
              · rw [List.length_append, List.length_take, List.length_drop]; omega
              · rcases List.mem_append.mp hx with hx | hx
                · exact bx' x (List.mem_of_mem_take hx)
                · exact bx' x (List.mem_of_mem_drop hx)
            refine ite2 (fun e3 => ?_) (fun e3 => ?_)
            · -- two parts exchanged
              refine ⟨xs, .inl (SqL.of e4), b, _, rfl, g4.1, pos, by omega, fun ot H5 s0 s1 g5 => ?_⟩
              have e5 := g5.2 _ _ np e4
              have G5 := G4.trans g5
              obtain ⟨v1, f1, f2⟩ := pickV xs s0 s1
              obtain ⟨v2, f3, f4⟩ := pickV xs r0 r1
              obtain ⟨d1, f5, f6⟩ := (dv4 _ G5).get f1
              obtain ⟨d2, f7, f8⟩ := (dv4 _ G5).get f3
              refine ⟨xs, v1, .inl (SqL.of e5), f2, xs, v2, .inl (SqL.of e5), f4, l2, fun t3 ht3 => ?_⟩
              have G6 := G5.trans (Gr.new (o := .tup [v1, v2]) G5.1 ht3)
              have e6 := same_upd (o := .tup [v1, v2]) ht3 _ _ e5
              refine ⟨t3, [v1, v2], rfl, .inl (.inl upd_same), rfl, v1, [v2], rfl, ?_⟩
              refine ⟨p, xs, at', at'.toNat, rfl, rfl, e6, ix_nat r0 r1, ?_⟩
              refine ⟨v2, [], rfl, ?_⟩
              refine ⟨p, _, ot, ot.toNat, rfl, rfl, upd_same, ix_nat s0 (by rw [List.length_set]; exact s1), rfl, ?_⟩
              have G7 := put _ (xs.set at'.toNat v1) G6 e6
              have G8 : Gr b H (upd (upd (upd H5 t3 (.tup [v1, v2])) p (.lst (xs.set at'.toNat v1))) p (.lst ((xs.set at'.toNat v1).set ot.toNat v2))) := G7.put np hp0
              refine fin _ p _ ((ds.set at'.toNat d1).set ot.toNat d2) _ _ G8 upd_same hp0 ?_ (by rw [List.length_set, List.length_set]; omega) (fun x hx => ?_)
              · have z1 : DV K R v1 d1 := by
                  obtain ⟨y, y1, y2⟩ := ha.get f1
                  rw [f5] at y1
                  cases y1
                  exact y2
                have z2 : DV K R v2 d2 := by
                  obtain ⟨y, y1, y2⟩ := ha.get f3
                  rw [f7] at y1
                  cases y1
                  exact y2
                exact DVs.same (jn_old hR) ((ha.set _ z1).set _ z2)
              · rcases List.mem_or_eq_of_mem_set hx with hx | rfl
                · rcases List.mem_or_eq_of_mem_set hx with hx | rfl
                  · exact bx' x hx
                  · exact bx' _ (List.mem_of_getElem? f5)
                · exact bx' _ (List.mem_of_getElem? f7)
            refine ite2 (fun e5 => ?_) (fun e5 => ?_)
            · -- of the other kind
              refine ⟨_, .tuple, DV.same (RS H4 G4) hd0, rfl, ?_⟩
              refine Or.inl ⟨xs, SqL.of e4, fun l hl => ?_⟩
              exact q (.ref l) (.tuple ds) _ (Bd.tuple (by omega) bx') (G4.trans (Gr.new G4.1 hl)) (.tup (.inl (.inl (jn_new (G4.free hb hl) upd_same))) (DVs.same (grow _ _ _ hl) (dv4 _ G4)))
            · -- one part spoilt itself
              obtain ⟨v1, f1, f2⟩ := pickV xs r0 r1
              obtain ⟨d1, f3, f4⟩ := ha.get f1
              refine ⟨xs, v1, .inl (SqL.of e4), f2, b, v1, d1, n, j', R, rfl, g4.1, RD H4 G4, f4, bx d1 (List.mem_of_getElem? f3), by omega, n7, fun v' d' H6 bd' g6 dv' => ?_⟩
              have e6 := g6.2 _ _ np e4
              have G6 := G4.trans g6
              refine ⟨p, xs, at', at'.toNat, rfl, rfl, e6, ix_nat r0 r1, ?_⟩
              have G7 := put _ (xs.set at'.toNat v') G6 e6
              refine fin _ p _ (ds.set at'.toNat d') _ _ G7 upd_same hp0 ?_ (by rw [List.length_set]; omega) (fun x hx => ?_)
              · have z : DV K (jn H R (upd H6 p (.lst (xs.set at'.toNat v')))) v' d' := DV.same (jn_step hb hR G4 fun a o h e => by
                  have n : a ≠ p := fun z => by rw [z, e4] at h; cases h
                  rw [upd_ne n]; exact e) dv'
                exact DVs.set _ (dv4 _ G7) z
              · rcases List.mem_or_eq_of_mem_set hx with hx | rfl
                · exact bx' x hx
                · exact bd'
          · refine ⟨_, .str, DV.same (RS _ g2) hd0, rfl, ?_⟩
            exact ⟨_, .int, DV.same (RS _ g2) hd0, rfl, odd _ g2⟩
        · refine ⟨_, .str, DV.same (RS _ g2) hd0, rfl, ?_⟩
          exact ⟨_, .int, DV.same (RS _ g2) hd0, rfl, odd _ g2⟩
      | @tup a xs ds hs ha =>
        obtain ⟨j', rfl, few, bx⟩ := bd.untuple
        have sqR : Sq K R a xs := .inr hs
        have RD : ∀ H', Gr b H H' → Same R (off b H') := fun H' g a o e => g.same a o (hR a o e)
        have RS : ∀ H', Gr b H H' → Same R H' := fun H' g a o e => off_same _ _ (RD H' g a o e)
        have len := ha.length
        have grow : ∀ (H' : Hp) (l : Addr) (o : HO), H' l = none → Same (jn H R H') (jn H R (upd H' l o)) := fun H' l o hl => jn_step hb hR (Gr.refl hb) fun a u h e => by
          rw [upd_ne (ne_of_none e hl)]; exact e
        have fin : ∀ (H' : Hp) (pp : Addr) (vs : List V) (es : List PyData) (x4 x5 : Option V), Gr b H H' → H' pp = some (.lst vs) → H pp = none → DVs K (jn H R H') vs es → es.length ≤ 120 + (n + 1) → (∀ x ∈ es, Bd (n + 1) (j' + 3) x) →
            tIf (tTruG K (tCB (rIsiD K) (tCons (tV 1) (tCons (tC (.ty "tuple")) tNil)))) (tCB (rTupleG K) (tCons (tV 3) tNil)) (tV 3) [some (.ref b), some (.ref a), some (.int way), some (.ref pp), x4, x5] H' Q := fun H' pp vs es x4 x5 g e hpp dv le be => by
          refine ⟨_, .tuple, DV.same (RS H' g) hd0, rfl, ?_⟩
          refine Or.inl ⟨vs, SqL.of e, fun l hl => ?_⟩
          exact q (.ref l) (.tuple es) _ (Bd.tuple le be) (g.trans (Gr.new g.1 hl)) (.tup (.inl (.inl (jn_new (g.free hb hl) upd_same))) (DVs.same (grow _ _ _ hl) dv))
        refine ⟨l2, fun t ht => ?_⟩
        have g2 := g1.trans (Gr.new (o := .tup [.ty "tuple", .ty "list"]) g1.1 ht)
        refine ⟨_, .tuple, .list, DV.same (RS _ g2) hd0, upd_same, ?_⟩
        have sq2 := Sq.same (RS _ g2) sqR
        refine ⟨xs, sq2, ite2 (fun e => ?_) (fun e => ?_)⟩
        · refine ite2 (fun e' => ?_) (fun e' => ?_)
          · have pos : (0 : Int) < (xs.length : Nat) := of_decide_eq_true e
            have lx : xs.length ≤ 120 + n := by omega
            refine ⟨xs, sq2, fun p hp => ?_⟩
            have g3 := g2.trans (Gr.new (o := .lst xs) g2.1 hp)
            have np := g2.1.ne hp
            have hp0 := g2.free hb hp
            refine ⟨xs, .inl (SqL.of upd_same), b, _, rfl, g3.1, pos, by omega, fun at' H4 r0 r1 g4 => ?_⟩
            have e4 := g4.2 _ _ np upd_same
            have G4 := g3.trans g4
            have dv4 : ∀ H', Gr b H H' → DVs K (jn H R H') xs ds := fun H' g => DVs.same (jn_old hR) ha
            have bx' : ∀ x ∈ ds, Bd (n + 1) (j' + 3) x := fun x hx => (bx x hx).up.deeper (by omega)
            have put : ∀ (H' : Hp) (vs : List V), Gr b H H' → H' p = some (.lst xs) → Gr b H (upd H' p (.lst vs)) := fun H' vs g _ => g.put np hp0
            refine ite2 (fun e1 => ?_) (fun e1 => ?_)
            · -- one part gone
              refine Or.inl ⟨xs, SqL.of e4, fun q1 hq1 => ?_⟩
              have e5 := same_upd (o := .lst (cutV xs none (some at'))) hq1 _ _ e4
              have G5 := G4.trans (Gr.new (o := .lst (cutV xs none (some at'))) G4.1 hq1)
              refine Or.inl ⟨xs, SqL.of e5, fun q2 hq2 => ?_⟩
              have G6 := G5.trans (Gr.new (o := .lst (cutV xs (some (at' + 1)) none)) G5.1 hq2)
              have c1 := cut_lo xs at' r0 (by omega)
              have c2 := cut_hi xs (at' + 1) (by omega) (by omega)
              refine Or.inl ⟨q1, q2, _, _, rfl, rfl, same_upd hq2 _ _ upd_same, upd_same, line_le (by rw [c1, c2, List.length_take, List.length_drop]; omega), fun q3 hq3 => ?_⟩
              have G7 := G6.trans (Gr.new (o := .lst (cutV xs none (some at') ++ cutV xs (some (at' + 1)) none)) G6.1 hq3)
              refine fin _ q3 _ (ds.take at'.toNat ++ ds.drop (at' + 1).toNat) _ _ G7 upd_same (G6.free hb hq3) ?_ ?_ (fun x hx => ?_)
              · have z := ((dv4 _ G7).take at'.toNat).append ((dv4 _ G7).drop (at' + 1).toNat)
                rw [← c1, ← c2] at z
                exact z
              · rw [List.length_append, List.length_take, List.length_drop]; omega
              · rcases List.mem_append.mp hx with hx | hx
                · exact bx' x (List.mem_of_mem_take hx)
                · exact bx' x (List.mem_of_mem_drop hx)
            refine ite2 (fun e2 => ?_) (fun e2 => ?_)
            · -- one part twice
              refine Or.inl ⟨xs, SqL.of e4, fun q1 hq1 => ?_⟩
              have e5 := same_upd (o := .lst (cutV xs none (some (at' + 1)))) hq1 _ _ e4
              have G5 := G4.trans (Gr.new (o := .lst (cutV xs none (some (at' + 1)))) G4.1 hq1)
              refine Or.inl ⟨xs, SqL.of e5, fun q2 hq2 => ?_⟩
              have G6 := G5.trans (Gr.new (o := .lst (cutV xs (some at') none)) G5.1 hq2)
              have c1 := cut_lo xs (at' + 1) (by omega) (by omega)
              have c2 := cut_hi xs at' r0 (by omega)
              refine Or.inl ⟨q1, q2, _, _, rfl, rfl, same_upd hq2 _ _ upd_same, upd_same, line_le (by rw [c1, c2, List.length_take, List.length_drop]; omega), fun q3 hq3 => ?_⟩
              have G7 := G6.trans (Gr.new (o := .lst (cutV xs none (some (at' + 1)) ++ cutV xs (some at') none)) G6.1 hq3)
              refine fin _ q3 _ (ds.take (at' + 1).toNat ++ ds.drop at'.toNat) _ _ G7 upd_same (G6.free hb hq3) ?_ ?_ (fun x hx => ?_)
              · have z := ((dv4 _ G7).take (at' + 1).toNat).append ((dv4 _ G7).drop at'.toNat)
                rw [← c1, ← c2] at z
                exact z
              · rw [List.length_append, List.length_take, List.length_drop]; omega
              · rcases List.mem_append.mp hx with hx | hx
                · exact bx' x (List.mem_of_mem_take hx)
                · exact bx' x (List.mem_of_mem_drop hx)
            refine ite2 (fun e3 => ?_) (fun e3 => ?_)
            · -- two parts exchanged
              refine ⟨xs, .inl (SqL.of e4), b, _, rfl, g4.1, pos, by omega, fun ot H5 s0 s1 g5 => ?_⟩
              have e5 := g5.2 _ _ np e4
              have G5 := G4.trans g5
              obtain ⟨v1, f1, f2⟩ := pickV xs s0 s1
              obtain ⟨v2, f3, f4⟩ := pickV xs r0 r1
              obtain ⟨d1, f5, f6⟩ := (dv4 _ G5).get f1
              obtain ⟨d2, f7, f8⟩ := (dv4 _ G5).get f3
              refine ⟨xs, v1, .inl (SqL.of e5), f2, xs, v2, .inl (SqL.of e5), f4, l2, fun t3 ht3 => ?_⟩
              have G6 := G5.trans (Gr.new (o := .tup [v1, v2]) G5.1 ht3)
              have e6 := same_upd (o := .tup [v1, v2]) ht3 _ _ e5
              refine ⟨t3, [v1, v2], rfl, .inl (.inl upd_same), rfl, v1, [v2], rfl, ?_⟩
              refine ⟨p, xs, at', at'.toNat, rfl, rfl, e6, ix_nat r0 r1, ?_⟩
              refine ⟨v2, [], rfl, ?_⟩
              refine ⟨p, _, ot, ot.toNat, rfl, rfl, upd_same, ix_nat s0 (by rw [List.length_set]; exact s1), rfl, ?_⟩
              have G7 := put _ (xs.set at'.toNat v1) G6 e6
              have G8 : Gr b H (upd (upd (upd H5 t3 (.tup [v1, v2])) p (.lst (xs.set at'.toNat v1))) p (.lst ((xs.set at'.toNat v1).set ot.toNat v2))) := G7.put np hp0
              refine fin _ p _ ((ds.set at'.toNat d1).set ot.toNat d2) _ _ G8 upd_same hp0 ?_ (by rw [List.length_set, List.length_set]; omega) (fun x hx => ?_)
              · have z1 : DV K R v1 d1 := by
                  obtain ⟨y, y1, y2⟩ := ha.get f1
                  rw [f5] at y1
                  cases y1
                  exact y2
                have z2 : DV K R v2 d2 := by
                  obtain ⟨y, y1, y2⟩ := ha.get f3
                  rw [f7] at y1
                  cases y1
                  exact y2
                exact DVs.same (jn_old hR) ((ha.set _ z1).set _ z2)
              · rcases List.mem_or_eq_of_mem_set hx with hx | rfl
                · rcases List.mem_or_eq_of_mem_set hx with hx | rfl
                  · exact bx' x hx
                  · exact bx' _ (List.mem_of_getElem? f5)
                · exact bx' _ (List.mem_of_getElem? f7)
            refine ite2 (fun e5 => ?_) (fun e5 => ?_)
            · -- of the other kind
              refine ⟨_, .tuple, DV.same (RS H4 G4) hd0, rfl, ?_⟩
              exact q (.ref p) (.list ds) _ (Bd.list (by omega) bx') G4 (.lst (jn_new hp0 e4) (dv4 _ G4))
            · -- one part spoilt itself
              obtain ⟨v1, f1, f2⟩ := pickV xs r0 r1
              obtain ⟨d1, f3, f4⟩ := ha.get f1
              refine ⟨xs, v1, .inl (SqL.of e4), f2, b, v1, d1, n, j', R, rfl, g4.1, RD H4 G4, f4, bx d1 (List.mem_of_getElem? f3), by omega, n7, fun v' d' H6 bd' g6 dv' => ?_⟩
              have e6 := g6.2 _ _ np e4
              have G6 := G4.trans g6
              refine ⟨p, xs, at', at'.toNat, rfl, rfl, e6, ix_nat r0 r1, ?_⟩
              have G7 := put _ (xs.set at'.toNat v') G6 e6
              refine fin _ p _ (ds.set at'.toNat d') _ _ G7 upd_same hp0 ?_ (by rw [List.length_set]; omega) (fun x hx => ?_)
              · have z : DV K (jn H R (upd H6 p (.lst (xs.set at'.toNat v')))) v' d' := DV.same (jn_step hb hR G4 fun a o h e => by
                  have n : a ≠ p := fun z => by rw [z, e4] at h; cases h
                  rw [upd_ne n]; exact e) dv'
                exact DVs.set _ (dv4 _ G7) z
              · rcases List.mem_or_eq_of_mem_set hx with hx | rfl
                · exact bx' x hx
                · exact bd'
          · refine ⟨_, .str, DV.same (RS _ g2) hd0, rfl, ?_⟩
            exact ⟨_, .int, DV.same (RS _ g2) hd0, rfl, odd _ g2⟩
        · refine ⟨_, .str, DV.same (RS _ g2) hd0, rfl, ?_⟩
          exact ⟨_, .int, DV.same (RS _ g2) hd0, rfl, odd _ g2⟩
theorem ok__law_spoilt (T : Txt K mg) : FnOk P w K mg base CX0 30 T.f__law_spoilt T.fd__law_spoilt ["bag", "thing"] (spSpoilt K 27) := ok_spoilt_aux T 27

end

section
variable {P : Program} {w : World} {K : PySem.W.Frag} {mg : Str → Option Value} {base : Heap}
set_option maxHeartbeats 1000000 in
theorem ok_law (T : Txt K mg) : FnOk P w K mg base CX0 31 T.f_law T.fd_law ["script"] (Tc.spLaw K) := by
  refine T.F_law.ok sc_law (fun vs H Q E h => ?_) (fun cdv A outer s H vs Q E hr h => ?_)
  · obtain ⟨a, ns, rfl, _⟩ := h
    rfl
  · obtain ⟨a, ns, rfl, hs, hl, q⟩ := h
    have l0 : (0 : Nat) ≤ sizeLine := line_le (by decide)
    have l1 : (1 : Nat) ≤ sizeLine := line_le (by decide)
    have l2 : (2 : Nat) ≤ sizeLine := line_le (by decide)
    have ll : (ns.map V.int).length = ns.length := List.length_map _
    refine ⟨_, (pss_cons (ps_for PassesOwn.never rfl (pi_range1 (by rfl) T.z_range (pa_cons (pe_op (addK (K := K)) pe_int (pe_callB (call_min2G rfl) (by rfl) T.z_min Tc.boot_min (pa_cons (pe_callB (lenK (K := K)) (by rfl) T.z_len Tc.boot_len (pa_cons (pn 0) pa_nil)) (pa_cons pe_int pa_nil)))) pa_nil)) (pg_name (i := 1) sc_law.nd rfl (Or.inl rfl))
      (pss_cons (ps_set (i := 2) sc_law.nd rfl (Or.inl rfl) (pe_call (ok__law_bag T) (hr.mono (by decide)) (by rfl) T.g__law_bag T.F__law_bag.kp T.b__law_bag .nil pass0 (pa_cons (pn 0) (pa_cons (pn 1) pa_nil))))
      (pss_cons (ps_set (i := 3) sc_law.nd rfl (Or.inl rfl) (pe_call (ok__law_keys T) (hr.mono (by decide)) (by rfl) T.g__law_keys T.F__law_keys.kp T.b__law_keys .nil pass0 (pa_cons (pn 2) pa_nil)))
      (pss_cons (ps_set (i := 4) sc_law.nd rfl (Or.inl rfl) (pe_call (ok__law_log T) (hr.mono (by decide)) (by rfl) T.g__law_log T.F__law_log.kp T.b__law_log .nil pass0 (pa_cons (pn 2) (pa_cons (pn 3) (pa_cons pe_int pa_nil)))))
      (pss_cons (ps_mid (ps_if (pt_cmpG (eqK (K := K) hr.units) (pn 1) pe_int (nomark _))
      (pss_cons (ps_set (i := 5) sc_law.nd rfl (Or.inl rfl) (pe_call (ok__law_entry T) (hr.mono (by decide)) (by rfl) T.g__law_entry T.F__law_entry.kp T.b__law_entry .nil pass0 (pa_cons (pn 2) (pa_cons (pn 3) pa_nil))))
      (pss_cons (ps_if (PW.pt (pw_or (pt_cmpG op_isnotB (pe_call (ok_is_log T) (hr.mono (by decide)) (by rfl) T.g_is_log T.F_is_log.kp T.b_is_log .nil pass0 (pa_cons (pe_op op_rep (pe_lst (pa_cons (pn 5) pa_nil)) pe_int) pa_nil)) pe_bl (nomark _)) (pw_or1 (pt_cmpG op_isnotB (pe_call (ok_is_log T) (hr.mono (by decide)) (by rfl) T.g_is_log T.F_is_log.kp T.b_is_log .nil pass0 (pa_cons (pe_op op_rep (pe_lst (pa_cons (pn 5) pa_nil)) pe_int) pa_nil)) pe_bl (nomark _)))))
      (pss_one (ps_ret pe_bl))
      pss_nil)
      (pss_cons (ps_set (i := 6) sc_law.nd rfl (Or.inl rfl) (pe_tup (pa_cons pe_str (pa_cons (pe_op op_repT (pe_call (ok__law_changes T) (hr.mono (by decide)) (by rfl) T.g__law_changes T.F__law_changes.kp T.b__law_changes .nil pass0 (pa_cons (pn 2) (pa_cons (pn 3) (pa_cons pe_int pa_nil)))) (pe_op (addK (K := K)) pe_int (pe_call (ok__law_take T) (hr.mono (by decide)) (by rfl) T.g__law_take T.F__law_take.kp T.b__law_take .nil pass0 (pa_cons (pn 2) (pa_cons pe_int pa_nil))))) pa_nil))))
      (pss_one (ps_if (PW.pt (pw_or (pt_cmpG (neK (K := K) hr.units) (pe_call (ok_is_entry T) (hr.mono (by decide)) (by rfl) T.g_is_entry T.F_is_entry.kp T.b_is_entry .nil pass0 (pa_cons (pn 6) pa_nil)) (pe_call (ok__law_is_entry T) (hr.mono (by decide)) (by rfl) T.g__law_is_entry T.F__law_is_entry.kp T.b__law_is_entry .nil pass0 (pa_cons (pn 6) pa_nil)) (nomark _)) (pw_or1 (pt_cmpG op_isnotB (pe_call (ok_is_entry T) (hr.mono (by decide)) (by rfl) T.g_is_entry T.F_is_entry.kp T.b_is_entry .nil pass0 (pa_cons (pe_tup (pa_cons pe_str (pa_cons (pe_tup pa_nil) pa_nil))) pa_nil)) pe_bl (nomark _)))))
      (pss_one (ps_ret pe_bl))
      pss_nil)))))
      pss_nil))
      (pss_one (ps_for PassesOwn.never rfl (pi_range1 (by rfl) T.z_range (pa_cons pe_int pa_nil)) (pg_name (i := 7) sc_law.nd rfl (Or.inl rfl))
      (pss_cons (ps_mid (ps_set (i := 8) sc_law.nd rfl (Or.inl rfl) (pe_ifExp (truK (K := K) (pe_callB (isiK (K := K)) (by rfl) T.z_isinstance Tc.boot_isinstance (pa_cons (pn 4) (pa_cons (pe_tup (pa_cons (pe_bltn (v := .ty "list") (by rfl) T.z_list Tc.boot_list rfl) (pa_cons (pe_bltn (v := .ty "tuple") (by rfl) T.z_tuple Tc.boot_tuple rfl) pa_nil))) pa_nil)))) (pe_callTy (listK (K := K)) (by rfl) T.z_list Tc.boot_list (pa_cons (pn 4) pa_nil)) (pe_lst pa_nil))))
      (pss_cons (ps_for PassesOwn.never rfl (piK (K := K) (pe_op (addK (K := K)) (pn 8) (pe_lst (pa_cons (pe_call (ok__law_odd T) (hr.mono (by decide)) (by rfl) T.g__law_odd T.F__law_odd.kp T.b__law_odd .nil pass0 (pa_cons (pn 2) pa_nil)) pa_nil)))) (pg_name (i := 9) sc_law.nd rfl (Or.inl rfl))
      (pss_cons (ps_set (i := 10) sc_law.nd rfl (Or.inl rfl) (pe_call (ok_is_entry T) (hr.mono (by decide)) (by rfl) T.g_is_entry T.F_is_entry.kp T.b_is_entry .nil pass0 (pa_cons (pn 9) pa_nil)))
      (pss_one (ps_if (PW.pt (pw_or (pt_not (truK (K := K) (pe_callB (isiK (K := K)) (by rfl) T.z_isinstance Tc.boot_isinstance (pa_cons (pn 10) (pa_cons (pe_bltn (v := .ty "bool") (by rfl) T.z_bool Tc.boot_bool rfl) pa_nil))))) (pw_or1 (pt_cmpG (neK (K := K) hr.units) (pn 10) (pe_call (ok__law_is_entry T) (hr.mono (by decide)) (by rfl) T.g__law_is_entry T.F__law_is_entry.kp T.b__law_is_entry .nil pass0 (pa_cons (pn 9) pa_nil)) (nomark _)))))
      (pss_one (ps_ret pe_bl))
      pss_nil))))
      (pss_cons (ps_set (i := 10) sc_law.nd rfl (Or.inl rfl) (pe_call (ok_is_log T) (hr.mono (by decide)) (by rfl) T.g_is_log T.F_is_log.kp T.b_is_log .nil pass0 (pa_cons (pn 4) pa_nil)))
      (pss_cons (ps_if (PW.pt (pw_or (pt_not (truK (K := K) (pe_callB (isiK (K := K)) (by rfl) T.z_isinstance Tc.boot_isinstance (pa_cons (pn 10) (pa_cons (pe_bltn (v := .ty "bool") (by rfl) T.z_bool Tc.boot_bool rfl) pa_nil))))) (pw_or1 (pt_cmpG (neK (K := K) hr.units) (pn 10) (pe_call (ok__law_is_log T) (hr.mono (by decide)) (by rfl) T.g__law_is_log T.F__law_is_log.kp T.b__law_is_log .nil pass0 (pa_cons (pn 4) pa_nil)) (nomark _)))))
      (pss_one (ps_ret pe_bl))
      pss_nil)
      (pss_one (ps_set (i := 4) sc_law.nd rfl (Or.inl rfl) (pe_call (ok__law_spoilt T) hr (by rfl) T.g__law_spoilt T.F__law_spoilt.kp T.b__law_spoilt .nil pass0 (pa_cons (pn 2) (pa_cons (pn 4) pa_nil))))))))))))))))
      (pss_one (ps_ret pe_bl))), ?_⟩
    refine ⟨_, .inl hs, _, rfl, by split <;> omega, by split <;> omega, ?_⟩
    refine for_range (lo := 0) (fun i σ H' => Same H H' ∧ ∃ x1 x2 x3 x4 x5 x6 x7 x8 x9 x10, σ = [some (.ref a), x1, x2, x3, x4, x5, x6, x7, x8, x9, x10]) ⟨Same.refl H, _, _, _, _, _, _, _, _, _, _, rfl⟩ (fun i σ H1 lt pv => ?_) (fun σ H1 pv => q _)
    obtain ⟨s1, x1, x2, x3, x4, x5, x6, x7, x8, x9, x10, rfl⟩ := pv
    -- bag
    have lt64 : i < 100 := by split at lt <;> omega
    refine ⟨a, ns, 0 + i, rfl, s1.seq hs, by omega, by omega, fun b x y nb y0 y1 => ?_⟩
    have hb : Bag (upd H1 b (.lst [.int x, .int y])) b := ⟨x, y, upd_same, y0, y1⟩
    have s2 : Same H (upd H1 b (.lst [.int x, .int y])) := s1.trans (same_upd nb)
    have nbH := s1.free nb
    generalize upd H1 b (.lst [.int x, .int y]) = H2 at hb s2
    -- keys, thing
    refine ⟨b, rfl, hb, fun p ks H3 hk g3 hp ip => ?_⟩
    have kin := hk.2.1
    have k0 := hk.2.2.2
    have k1 := hk.2.2.1
    refine ⟨b, p, ks, 6, rfl, g3.1, ip, k0, by omega, by decide, fun D vs es H4 nD el ein g4 eD hd => ?_⟩
    have G4 := g3.trans g4
    have bdl : Bd 0 4 (.list (es.map entD)) := Bd.log ein (by omega) (by decide) kin
    have nDb := g3.1.ne nD
    have dat0 : Dat K b H4 (.ref D) (.list (es.map entD)) := .lst (off_mk nDb eD) (hd.ts g4.1.off (noLs_ents es))
    refine ⟨fun σ' H' => Gr b H4 H' ∧ ∃ y5 y6, σ' = [some (.ref a), some (.int (0 + i)), some (.ref b), some (.ref p), some (.ref D), y5, y6, x7, x8, x9, x10], ?_, fun σ' H' m => ?_⟩
    · refine ite2 (fun e0 => ?_) (fun e0 => ⟨Gr.refl g4.1, _, _, rfl⟩)
      refine ⟨b, p, ks, rfl, g4.1, ip.gr g4, k0, by omega, fun ev e H5 he g5 dv => ?_⟩
      have eok := entD_ok he (by decide) kin
      refine ⟨l1, fun L hL => ⟨L, 400, [ev], rfl, rfl, upd_same, by decide, by decide, line_le (by show 1 * 400 ≤ _; decide), fun L2 hL2 => ?_⟩⟩
      have g6 := g5.trans (Gr.new (o := .lst [ev]) g5.1 hL)
      have g7 := g6.trans (Gr.new (o := .lst (List.replicate (400 : Int).toNat [ev]).flatten) g6.1 hL2)
      have dv7 := dv.ts ((Gr.new (o := .lst (List.replicate (400 : Int).toNat [ev]).flatten) g6.1 hL2).ts g6.1 |> fun t => ((Gr.new (o := .lst [ev]) g5.1 hL).ts g5.1).trans t) (noL_ent e)
      refine ⟨_, .list (List.replicate 400 (entD e)), rfl, .lst upd_same (DVs.rep dv7 400), trivial, fun H8 sm8 => ?_⟩
      rw [logD_rep eok]
      have g8 := g7.trans (Gr.ofs g7.1 sm8)
      have dv8 := DV.same sm8 dv7
      refine ⟨l1, fun L3 hL3 => ⟨L3, 401, [ev], rfl, rfl, upd_same, by decide, by decide, line_le (by show 1 * 401 ≤ _; decide), fun L4 hL4 => ?_⟩⟩
      have g9 := g8.trans (Gr.new (o := .lst [ev]) g8.1 hL3)
      have g10 := g9.trans (Gr.new (o := .lst (List.replicate (401 : Int).toNat [ev]).flatten) g9.1 hL4)
      have dv10 := DV.same (same_upd (o := .lst (List.replicate (401 : Int).toNat [ev]).flatten) hL4) (DV.same (same_upd (o := .lst [ev]) hL3) dv8)
      refine ⟨_, .list (List.replicate 401 (entD e)), rfl, .lst upd_same (DVs.rep dv10 401), trivial, fun H11 sm11 => ?_⟩
      rw [logD_rep eok]
      have g11 := g10.trans (Gr.ofs g10.1 sm11)
      -- long
      refine ⟨b, p, ks, 1, rfl, g11.1, ip.gr (g4.trans g11), k0, by omega, by decide, by decide, fun t ws cs H12 nt c1 c2 hc g12 et hcd => ?_⟩
      refine ⟨b, 3, rfl, g12.1, by decide, by decide, fun r H13 r0 r1 g13 => ?_⟩
      have nt1 := g11.1.ne nt
      have et13 := g13.2 _ _ nt1 et
      have hcd13 := hcd.ts (g13.ts g12.1) (noLs_chs cs)
      have lw : ws.length = cs.length := by rw [hcd.length, List.length_map]
      refine ⟨t, 5 + r, ws, rfl, rfl, .inl (.inl et13), fun z => by rw [z] at lw; simp at lw; omega, by omega, by omega, by omega, fun t2 ht2 => ⟨l2, fun t3 ht3 => ?_⟩⟩
      have g14 := g13.trans (Gr.new (o := .tup (List.replicate (5 + r).toNat ws).flatten) g13.1 ht2)
      have g15 := g14.trans (Gr.new (o := .tup [.str "group", .ref t2]) g14.1 ht3)
      have G15 := (g11.trans g12).trans g15
      obtain ⟨c, rfl⟩ : ∃ c, cs = [c] := by
        match cs, c1, c2 with
        | [c], _, _ => exact ⟨c, rfl⟩
        | _ :: _ :: _, _, h => simp at h
      obtain ⟨wv, rfl⟩ : ∃ wv, ws = [wv] := by
        match ws, lw with
        | [wv], _ => exact ⟨wv, rfl⟩
      have dwv : DV K H13 wv (chD c) := by cases hcd13 with | cons h _ => exact h
      have s14 := same_upd (o := .tup (List.replicate (5 + r).toNat [wv]).flatten) ht2
      have s15 := same_upd (o := .tup [.str "group", .ref t2]) ht3
      have dlong : DV K (upd (upd H13 t2 (.tup (List.replicate (5 + r).toNat [wv]).flatten)) t3 (.tup [.str "group", .ref t2])) (.ref t3) (.tuple [.str "group", .tuple (List.replicate (5 + r).toNat (chD c))]) :=
        .tup (.inl (.inl upd_same)) (.cons (.str _) (.cons (.tup (.inl (.inl (s15 _ _ upd_same))) (DVs.rep (DV.same s15 (DV.same s14 dwv)) _)) .nil))
      generalize upd (upd H13 t2 (.tup (List.replicate (5 + r).toNat [wv]).flatten)) t3 (.tup [.str "group", .ref t2]) = H15 at *
      refine ⟨_, _, rfl, dlong, trivial, fun H16 sm16 => ⟨_, _, rfl, DV.same sm16 dlong, trivial, fun H17 sm17 => ?_⟩⟩
      have G17 := G15.trans (Gr.ofs G15.1 (sm16.trans sm17))
      refine ite2 (fun e => by rw [decide_eq_true rfl] at e; cases e) (fun _ => ?_)
      refine ⟨l0, fun t4 ht4 => ⟨l2, fun t5 ht5 => ?_⟩⟩
      have g18 := G17.trans (Gr.new (o := .tup []) G17.1 ht4)
      have g19 := g18.trans (Gr.new (o := .tup [.str "group", .ref t4]) g18.1 ht5)
      have s19 := same_upd (o := .tup [.str "group", .ref t4]) ht5
      refine ⟨_, .tuple [.str "group", .tuple []], rfl, .tup (.inl (.inl upd_same)) (.cons (.str _) (.cons (.tup (.inl (.inl (s19 _ _ upd_same))) .nil) .nil)), trivial, fun H20 sm20 => ?_⟩
      have z : entryD (.tuple [.str "group", .tuple []]) = false := by
        show (decide (("group" : Str) = "group") && false) = false
        rw [Bool.and_false]
      rw [z]
      exact ⟨g19.trans (Gr.ofs g19.1 sm20), _, _, rfl⟩
    · obtain ⟨g5, y5, y6, rfl⟩ := m
      refine ⟨7, rfl, by decide, by decide, ?_⟩
      refine for_range (lo := 0) (n := 7) (fun i' σ H' => Gr b H2 H' ∧ ∃ v d y5 y6 y7 y8 y9 y10, σ = [some (.ref a), some (.int (0 + i)), some (.ref b), some (.ref p), some v, y5, y6, y7, y8, y9, y10] ∧ Dat K b H' v d ∧ Bd i' (4 + 3 * i') d) ⟨G4.trans g5, _, _, _, _, _, _, _, _, rfl, dat0.gr g5, bdl⟩ (fun i' σ H' lt pv => ?_) (fun σ H' pv => ?_)
      · obtain ⟨g, v, d, y5, y6, y7, y8, y9, y10, rfl, dat, bd⟩ := pv
        refine ⟨fun σ1 Ha => Gr b H' Ha ∧ ∃ L xs, σ1 = [some (.ref a), some (.int (0 + i)), some (.ref b), some (.ref p), some v, y5, y6, some (.int (0 + i')), some (.ref L), y9, y10] ∧ Ha L = some (.lst xs) ∧ Dats K b Ha xs (itemsD d) ∧ L ≠ b ∧ xs.length ≤ 130, ?_, fun σ1 Ha m => ?_⟩
        · have emp : ∀ (t : Addr), H' t = none → tLst tNil [some (.ref a), some (.int (0 + i)), some (.ref b), some (.ref p), some v, y5, y6, some (.int (0 + i')), y8, y9, y10] (upd H' t (.tup [.ty "list", .ty "tuple"])) fun x Ha => gName 8 x [some (.ref a), some (.int (0 + i)), some (.ref b), some (.ref p), some v, y5, y6, some (.int (0 + i')), y8, y9, y10] Ha fun σ1 Ha => Gr b H' Ha ∧ ∃ L xs, σ1 = [some (.ref a), some (.int (0 + i)), some (.ref b), some (.ref p), some v, y5, y6, some (.int (0 + i')), some (.ref L), y9, y10] ∧ Ha L = some (.lst xs) ∧ Dats K b Ha xs [] ∧ L ≠ b ∧ xs.length ≤ 130 := fun t ht => ⟨l0, fun L hL => by
            have g1 := Gr.new (o := .tup [.ty "list", .ty "tuple"]) g.1 ht
            exact ⟨g1.trans (Gr.new g1.1 hL), L, [], rfl, upd_same, .nil, g1.1.ne hL, Nat.zero_le _⟩⟩
          have seq : ∀ (t q : Addr) (xs : List V) (ds : List PyData), H' t = none → Sq K (off b H') q xs → v = .ref q → Dats K b H' xs ds → ds.length ≤ 130 → rListG K [.ref q] (upd H' t (.tup [.ty "list", .ty "tuple"])) fun x Ha => gName 8 x [some (.ref a), some (.int (0 + i)), some (.ref b), some (.ref p), some v, y5, y6, some (.int (0 + i')), y8, y9, y10] Ha fun σ1 Ha => Gr b H' Ha ∧ ∃ L xs, σ1 = [some (.ref a), some (.int (0 + i)), some (.ref b), some (.ref p), some v, y5, y6, some (.int (0 + i')), some (.ref L), y9, y10] ∧ Ha L = some (.lst xs) ∧ Dats K b Ha xs ds ∧ L ≠ b ∧ xs.length ≤ 130 := fun t q xs ds ht hs ev hd few => by
            have g1 := Gr.new (o := .tup [.ty "list", .ty "tuple"]) g.1 ht
            refine ⟨xs, Sq.same off_same (Sq.same g1.same hs), fun L hL => ?_⟩
            have g2 := g1.trans (Gr.new (o := .lst xs) g1.1 hL)
            exact ⟨g2, L, xs, rfl, upd_same, hd.gr g2, g1.1.ne hL, by rw [hd.length]; exact few⟩
          have dv := dat.dv
          cases dat with
          | non => exact ⟨l2, fun t ht => ⟨_, .list, .tuple, DV.same (same_upd ht) dv, upd_same, emp t ht⟩⟩
          | bl _ => exact ⟨l2, fun t ht => ⟨_, .list, .tuple, DV.same (same_upd ht) dv, upd_same, emp t ht⟩⟩
          | int _ => exact ⟨l2, fun t ht => ⟨_, .list, .tuple, DV.same (same_upd ht) dv, upd_same, emp t ht⟩⟩
          | str _ => exact ⟨l2, fun t ht => ⟨_, .list, .tuple, DV.same (same_upd ht) dv, upd_same, emp t ht⟩⟩
          | @lst q xs ds hs ha =>
            obtain ⟨j, _, few, _⟩ := bd.unlist
            exact ⟨l2, fun t ht => ⟨_, .list, .tuple, DV.same (same_upd ht) dv, upd_same, seq t q xs ds ht (.inl (SqL.of hs)) rfl ha (by omega)⟩⟩
          | @tup q xs ds hs ha =>
            obtain ⟨j, _, few, _⟩ := bd.untuple
            exact ⟨l2, fun t ht => ⟨_, .list, .tuple, DV.same (same_upd ht) dv, upd_same, seq t q xs ds ht (.inr hs) rfl ha (by omega)⟩⟩
        · obtain ⟨ga, L, xs, rfl, eL, dxs, nL, few⟩ := m
          refine ⟨b, rfl, ga.1, fun v' d' Hb bd' gb dv' => ⟨l1, fun L2 hL2 => ?_⟩⟩
          have eLb := gb.2 _ _ nL eL
          have nLL : L ≠ L2 := fun z => by rw [← z, eLb] at hL2; cases hL2
          have gc := gb.trans (Gr.new (o := .lst [v']) gb.1 hL2)
          refine Or.inl ⟨L, L2, xs, [v'], rfl, rfl, (by rw [upd_ne nLL]; exact eLb), upd_same, line_le (by show xs.length + 1 ≤ _; omega), fun C hC => ?_⟩
          have gd := gc.trans (Gr.new (o := .lst (xs ++ [v'])) gc.1 hC)
          have dall : DVs K (upd (upd Hb L2 (.lst [v'])) C (.lst (xs ++ [v']))) (xs ++ [v']) (itemsD d ++ [d']) := (dxs.gr gd).dv.snoc (DV.same ((same_upd hL2).trans (same_upd hC)) (DV.same (fun a o e => (nw_some e).2) dv'))
          have eC : (upd (upd Hb L2 (.lst [v'])) C (.lst (xs ++ [v']))) C = some (.lst (xs ++ [v'])) := upd_same
          generalize upd (upd Hb L2 (.lst [v'])) C (.lst (xs ++ [v'])) = H11 at *
          refine for_sq (K := K) (xs ++ [v']) (.inl (SqL.of eC)) (fun k σ Hx => Same H11 Hx ∧ ∃ z9 z10, σ = [some (.ref a), some (.int (0 + i)), some (.ref b), some (.ref p), some v, y5, y6, some (.int (0 + i')), some (.ref L), z9, z10]) ⟨Same.refl _, _, _, rfl⟩ (fun k σ Hx pv o ho => pv.1 _ _ ho) (fun k x σ Hx lt hx pv => ?_) (fun σ Hx pv => ?_)
          · obtain ⟨sm, z9, z10, rfl⟩ := pv
            obtain ⟨dx, hd1, hd2⟩ := dall.get hx
            have dxx := DV.same sm hd2
            refine ⟨x, dx, rfl, dxx, trivial, fun H12 sm2 => ⟨.bool (entryD dx), .bool, .bl _, rfl, ?_⟩⟩
            refine ⟨x, dx, rfl, DV.same sm2 dxx, trivial, fun H13 sm3 => ite2 (fun e => ?_) (fun e => ?_)⟩
            · rw [decide_eq_true rfl] at e
              cases e
            · exact ⟨sm.trans (sm2.trans sm3), _, _, rfl⟩
          · obtain ⟨sm, z9, z10, rfl⟩ := pv
            have ge := gd.trans (Gr.ofs gd.1 sm)
            have datE := (dat.gr ga).gr ge
            refine ⟨v, d, rfl, datE.dv, trivial, fun H12 sm2 => ⟨.bool (logD d), .bool, .bl _, rfl, ?_⟩⟩
            refine ⟨v, d, rfl, DV.same sm2 datE.dv, trivial, fun H13 sm3 => ite2 (fun e => ?_) (fun e => ?_)⟩
            · rw [decide_eq_true rfl] at e
              cases e
            · have g13 := ge.trans (Gr.ofs ge.1 (sm2.trans sm3))
              refine ⟨b, v, d, i', 4 + 3 * i', off b H13, rfl, g13.1, Same.refl _, (dat.gr ga).gr g13, bd, by omega, by omega, fun v2 d2 H14 bd2 g14 dv2 => ?_⟩
              exact ⟨((g.trans ga).trans g13).trans g14, v2, d2, _, _, _, _, _, _, rfl, DV.same (jn_off g13.1 (Same.refl _) g14) dv2, bd2.deeper (by omega)⟩
      · obtain ⟨g, v, d, y5, y6, y7, y8, y9, y10, rfl, _⟩ := pv
        exact ⟨g.base s2 nbH, _, _, _, _, _, _, _, _, _, _, rfl⟩

end

theorem all_mk {l : PySem.W.OpenLaw} {w : World} {K : PySem.W.Frag} {h : Heap} {mg : Str → Option Value} {fa f1 f2 f3 f4 f5 f6 f7 f8 f9 f10 f11 f12 f13 f14 f15 f16 f17 f18 f19 f20 f21 f22 f23 : Addr} (X : K.In h) (G : h.Ns mainGlobals mg) (hfa : mg "law" = some (.ref fa))
    {od1 an1 : Option Addr} {sl1 : Array (Option Value)} {oc1 kV1 dc1 pm1 cd1 ct1 : Value} {od2 an2 : Option Addr} {sl2 : Array (Option Value)} {oc2 kV2 dc2 pm2 cd2 ct2 : Value} {od3 an3 : Option Addr} {sl3 : Array (Option Value)} {oc3 kV3 dc3 pm3 cd3 ct3 : Value} {od4 an4 : Option Addr} {sl4 : Array (Option Value)} {oc4 kV4 dc4 pm4 cd4 ct4 : Value} {od5 an5 : Option Addr} {sl5 : Array (Option Value)} {oc5 kV5 dc5 pm5 cd5 ct5 : Value} {od6 an6 : Option Addr} {sl6 : Array (Option Value)} {oc6 kV6 dc6 pm6 cd6 ct6 : Value} {od7 an7 : Option Addr} {sl7 : Array (Option Value)} {oc7 kV7 dc7 pm7 cd7 ct7 : Value} {od8 an8 : Option Addr} {sl8 : Array (Option Value)} {oc8 kV8 dc8 pm8 cd8 ct8 : Value} {od9 an9 : Option Addr} {sl9 : Array (Option Value)} {oc9 kV9 dc9 pm9 cd9 ct9 : Value} {od10 an10 : Option Addr} {sl10 : Array (Option Value)} {oc10 kV10 dc10 pm10 cd10 ct10 : Value} {od11 an11 : Option Addr} {sl11 : Array (Option Value)} {oc11 kV11 dc11 pm11 cd11 ct11 : Value} {od12 an12 : Option Addr} {sl12 : Array (Option Value)} {oc12 kV12 dc12 pm12 cd12 ct12 : Value} {od13 an13 : Option Addr} {sl13 : Array (Option Value)} {oc13 kV13 dc13 pm13 cd13 ct13 : Value} {od14 an14 : Option Addr} {sl14 : Array (Option Value)} {oc14 kV14 dc14 pm14 cd14 ct14 : Value} {od15 an15 : Option Addr} {sl15 : Array (Option Value)} {oc15 kV15 dc15 pm15 cd15 ct15 : Value} {od16 an16 : Option Addr} {sl16 : Array (Option Value)} {oc16 kV16 dc16 pm16 cd16 ct16 : Value} {od17 an17 : Option Addr} {sl17 : Array (Option Value)} {oc17 kV17 dc17 pm17 cd17 ct17 : Value} {od18 an18 : Option Addr} {sl18 : Array (Option Value)} {oc18 kV18 dc18 pm18 cd18 ct18 : Value} {od19 an19 : Option Addr} {sl19 : Array (Option Value)} {oc19 kV19 dc19 pm19 cd19 ct19 : Value} {od20 an20 : Option Addr} {sl20 : Array (Option Value)} {oc20 kV20 dc20 pm20 cd20 ct20 : Value} {od21 an21 : Option Addr} {sl21 : Array (Option Value)} {oc21 kV21 dc21 pm21 cd21 ct21 : Value} {od22 an22 : Option Addr} {sl22 : Array (Option Value)} {oc22 kV22 dc22 pm22 cd22 ct22 : Value} {od23 an23 : Option Addr} {sl23 : Array (Option Value)} {oc23 kV23 dc23 pm23 cd23 ct23 : Value} {tk1 : Tok} {tk2 : Tok} {tk3 : Tok} {tk4 : Tok}
    (a1 : PySem.W.nsIn K mainGlobals "is_whole" = some (some (.ref f1))) (l1 : K.lookup f1 = some ⟨oc1, od1, .func (PySem.W.fnOf "is_whole" "is_whole" (defArgs s_is_whole) (defBody s_is_whole) (defScope s_is_whole) .none kV1 dc1 pm1 an1 cd1 ct1), sl1⟩) (c1 : PySem.W.codeIn K cd1 "is_whole" = true) (k1 : PySem.W.keepIn K (.ref f1) = true)
    (a2 : PySem.W.nsIn K mainGlobals "is_within" = some (some (.ref f2))) (l2 : K.lookup f2 = some ⟨oc2, od2, .func (PySem.W.fnOf "is_within" "is_within" (defArgs s_is_within) (defBody s_is_within) (defScope s_is_within) .none kV2 dc2 pm2 an2 cd2 ct2), sl2⟩) (c2 : PySem.W.codeIn K cd2 "is_within" = true) (k2 : PySem.W.keepIn K (.ref f2) = true)
    (a3 : PySem.W.nsIn K mainGlobals "is_pair" = some (some (.ref f3))) (l3 : K.lookup f3 = some ⟨oc3, od3, .func (PySem.W.fnOf "is_pair" "is_pair" (defArgs s_is_pair) (defBody s_is_pair) (defScope s_is_pair) .none kV3 dc3 pm3 an3 cd3 ct3), sl3⟩) (c3 : PySem.W.codeIn K cd3 "is_pair" = true) (k3 : PySem.W.keepIn K (.ref f3) = true)
    (a4 : PySem.W.nsIn K mainGlobals "is_change" = some (some (.ref f4))) (l4 : K.lookup f4 = some ⟨oc4, od4, .func (PySem.W.fnOf "is_change" "is_change" (defArgs s_is_change) (defBody s_is_change) (defScope s_is_change) .none kV4 dc4 pm4 an4 cd4 ct4), sl4⟩) (c4 : PySem.W.codeIn K cd4 "is_change" = true) (k4 : PySem.W.keepIn K (.ref f4) = true)
    (a5 : PySem.W.nsIn K mainGlobals "are_changes" = some (some (.ref f5))) (l5 : K.lookup f5 = some ⟨oc5, od5, .func (PySem.W.fnOf "are_changes" "are_changes" (defArgs s_are_changes) (defBody s_are_changes) (defScope s_are_changes) .none kV5 dc5 pm5 an5 cd5 ct5), sl5⟩) (c5 : PySem.W.codeIn K cd5 "are_changes" = true) (k5 : PySem.W.keepIn K (.ref f5) = true)
    (a6 : PySem.W.nsIn K mainGlobals "is_entry" = some (some (.ref f6))) (l6 : K.lookup f6 = some ⟨oc6, od6, .func (PySem.W.fnOf "is_entry" "is_entry" (defArgs s_is_entry) (defBody s_is_entry) (defScope s_is_entry) .none kV6 dc6 pm6 an6 cd6 ct6), sl6⟩) (c6 : PySem.W.codeIn K cd6 "is_entry" = true) (k6 : PySem.W.keepIn K (.ref f6) = true)
    (a7 : PySem.W.nsIn K mainGlobals "is_log" = some (some (.ref f7))) (l7 : K.lookup f7 = some ⟨oc7, od7, .func (PySem.W.fnOf "is_log" "is_log" (defArgs s_is_log) (defBody s_is_log) (defScope s_is_log) .none kV7 dc7 pm7 an7 cd7 ct7), sl7⟩) (c7 : PySem.W.codeIn K cd7 "is_log" = true) (k7 : PySem.W.keepIn K (.ref f7) = true)
    (a8 : PySem.W.nsIn K mainGlobals "_law_bag" = some (some (.ref f8))) (l8 : K.lookup f8 = some ⟨oc8, od8, .func (PySem.W.fnOf "_law_bag" "_law_bag" (defArgs s__law_bag) (defBody s__law_bag) (defScope s__law_bag) .none kV8 dc8 pm8 an8 cd8 ct8), sl8⟩) (c8 : PySem.W.codeIn K cd8 "_law_bag" = true) (k8 : PySem.W.keepIn K (.ref f8) = true)
    (a9 : PySem.W.nsIn K mainGlobals "_law_take" = some (some (.ref f9))) (l9 : K.lookup f9 = some ⟨oc9, od9, .func (PySem.W.fnOf "_law_take" "_law_take" (defArgs s__law_take) (defBody s__law_take) (defScope s__law_take) .none kV9 dc9 pm9 an9 cd9 ct9), sl9⟩) (c9 : PySem.W.codeIn K cd9 "_law_take" = true) (k9 : PySem.W.keepIn K (.ref f9) = true)
    (a10 : PySem.W.nsIn K mainGlobals "_law_of" = some (some (.ref f10))) (l10 : K.lookup f10 = some ⟨oc10, od10, .func (PySem.W.fnOf "_law_of" "_law_of" (defArgs s__law_of) (defBody s__law_of) (defScope s__law_of) .none kV10 dc10 pm10 an10 cd10 ct10), sl10⟩) (c10 : PySem.W.codeIn K cd10 "_law_of" = true) (k10 : PySem.W.keepIn K (.ref f10) = true)
    (a11 : PySem.W.nsIn K mainGlobals "_law_whole" = some (some (.ref f11))) (l11 : K.lookup f11 = some ⟨oc11, od11, .func (PySem.W.fnOf "_law_whole" "_law_whole" (defArgs s__law_whole) (defBody s__law_whole) (defScope s__law_whole) .none kV11 dc11 pm11 an11 cd11 ct11), sl11⟩) (c11 : PySem.W.codeIn K cd11 "_law_whole" = true) (k11 : PySem.W.keepIn K (.ref f11) = true)
    (a12 : PySem.W.nsIn K mainGlobals "_law_within" = some (some (.ref f12))) (l12 : K.lookup f12 = some ⟨oc12, od12, .func (PySem.W.fnOf "_law_within" "_law_within" (defArgs s__law_within) (defBody s__law_within) (defScope s__law_within) .none kV12 dc12 pm12 an12 cd12 ct12), sl12⟩) (c12 : PySem.W.codeIn K cd12 "_law_within" = true) (k12 : PySem.W.keepIn K (.ref f12) = true)
    (a13 : PySem.W.nsIn K mainGlobals "_law_odd" = some (some (.ref f13))) (l13 : K.lookup f13 = some ⟨oc13, od13, .func (PySem.W.fnOf "_law_odd" "_law_odd" (defArgs s__law_odd) (defBody s__law_odd) (defScope s__law_odd) .none kV13 dc13 pm13 an13 cd13 ct13), sl13⟩) (c13 : PySem.W.codeIn K cd13 "_law_odd" = true) (k13 : PySem.W.keepIn K (.ref f13) = true)
    (a14 : PySem.W.nsIn K mainGlobals "_law_spoilt" = some (some (.ref f14))) (l14 : K.lookup f14 = some ⟨oc14, od14, .func (PySem.W.fnOf "_law_spoilt" "_law_spoilt" (defArgs s__law_spoilt) (defBody s__law_spoilt) (defScope s__law_spoilt) .none kV14 dc14 pm14 an14 cd14 ct14), sl14⟩) (c14 : PySem.W.codeIn K cd14 "_law_spoilt" = true) (k14 : PySem.W.keepIn K (.ref f14) = true)
    (a15 : PySem.W.nsIn K mainGlobals "_law_keys" = some (some (.ref f15))) (l15 : K.lookup f15 = some ⟨oc15, od15, .func (PySem.W.fnOf "_law_keys" "_law_keys" (defArgs s__law_keys) (defBody s__law_keys) (defScope s__law_keys) .none kV15 dc15 pm15 an15 cd15 ct15), sl15⟩) (c15 : PySem.W.codeIn K cd15 "_law_keys" = true) (k15 : PySem.W.keepIn K (.ref f15) = true)
    (a16 : PySem.W.nsIn K mainGlobals "_law_changes" = some (some (.ref f16))) (l16 : K.lookup f16 = some ⟨oc16, od16, .func (PySem.W.fnOf "_law_changes" "_law_changes" (defArgs s__law_changes) (defBody s__law_changes) (defScope s__law_changes) .none kV16 dc16 pm16 an16 cd16 ct16), sl16⟩) (c16 : PySem.W.codeIn K cd16 "_law_changes" = true) (k16 : PySem.W.keepIn K (.ref f16) = true)
    (a17 : PySem.W.nsIn K mainGlobals "_law_entry" = some (some (.ref f17))) (l17 : K.lookup f17 = some ⟨oc17, od17, .func (PySem.W.fnOf "_law_entry" "_law_entry" (defArgs s__law_entry) (defBody s__law_entry) (defScope s__law_entry) .none kV17 dc17 pm17 an17 cd17 ct17), sl17⟩) (c17 : PySem.W.codeIn K cd17 "_law_entry" = true) (k17 : PySem.W.keepIn K (.ref f17) = true)
    (a18 : PySem.W.nsIn K mainGlobals "_law_log" = some (some (.ref f18))) (l18 : K.lookup f18 = some ⟨oc18, od18, .func (PySem.W.fnOf "_law_log" "_law_log" (defArgs s__law_log) (defBody s__law_log) (defScope s__law_log) .none kV18 dc18 pm18 an18 cd18 ct18), sl18⟩) (c18 : PySem.W.codeIn K cd18 "_law_log" = true) (k18 : PySem.W.keepIn K (.ref f18) = true)
    (a19 : PySem.W.nsIn K mainGlobals "_law_is_change" = some (some (.ref f19))) (l19 : K.lookup f19 = some ⟨oc19, od19, .func (PySem.W.fnOf "_law_is_change" "_law_is_change" (defArgs s__law_is_change) (defBody s__law_is_change) (defScope s__law_is_change) .none kV19 dc19 pm19 an19 cd19 ct19), sl19⟩) (c19 : PySem.W.codeIn K cd19 "_law_is_change" = true) (k19 : PySem.W.keepIn K (.ref f19) = true)
    (a20 : PySem.W.nsIn K mainGlobals "_law_are_changes" = some (some (.ref f20))) (l20 : K.lookup f20 = some ⟨oc20, od20, .func (PySem.W.fnOf "_law_are_changes" "_law_are_changes" (defArgs s__law_are_changes) (defBody s__law_are_changes) (defScope s__law_are_changes) .none kV20 dc20 pm20 an20 cd20 ct20), sl20⟩) (c20 : PySem.W.codeIn K cd20 "_law_are_changes" = true) (k20 : PySem.W.keepIn K (.ref f20) = true)
    (a21 : PySem.W.nsIn K mainGlobals "_law_is_entry" = some (some (.ref f21))) (l21 : K.lookup f21 = some ⟨oc21, od21, .func (PySem.W.fnOf "_law_is_entry" "_law_is_entry" (defArgs s__law_is_entry) (defBody s__law_is_entry) (defScope s__law_is_entry) .none kV21 dc21 pm21 an21 cd21 ct21), sl21⟩) (c21 : PySem.W.codeIn K cd21 "_law_is_entry" = true) (k21 : PySem.W.keepIn K (.ref f21) = true)
    (a22 : PySem.W.nsIn K mainGlobals "_law_is_log" = some (some (.ref f22))) (l22 : K.lookup f22 = some ⟨oc22, od22, .func (PySem.W.fnOf "_law_is_log" "_law_is_log" (defArgs s__law_is_log) (defBody s__law_is_log) (defScope s__law_is_log) .none kV22 dc22 pm22 an22 cd22 ct22), sl22⟩) (c22 : PySem.W.codeIn K cd22 "_law_is_log" = true) (k22 : PySem.W.keepIn K (.ref f22) = true)
    (a23 : PySem.W.nsIn K mainGlobals "law" = some (some (.ref f23))) (l23 : K.lookup f23 = some ⟨oc23, od23, .func (PySem.W.fnOf "law" "law" (defArgs s_law) (defBody s_law) (defScope s_law) .none kV23 dc23 pm23 an23 cd23 ct23), sl23⟩) (c23 : PySem.W.codeIn K cd23 "law" = true) (k23 : PySem.W.keepIn K (.ref f23) = true)
    (v1 : PySem.W.nsIn K mainGlobals "KEYS" = some (some (.int 1000 tk1)))
    (v2 : PySem.W.nsIn K mainGlobals "MOST_WORTH" = some (some (.int 999 tk2)))
    (v3 : PySem.W.nsIn K mainGlobals "MOST_CHANGES" = some (some (.int 6 tk3)))
    (v4 : PySem.W.nsIn K mainGlobals "MOST_LOG" = some (some (.int 400 tk4)))
    (z0 : PySem.W.nsIn K mainGlobals "isinstance" = some none)
    (z1 : PySem.W.nsIn K mainGlobals "int" = some none)
    (z2 : PySem.W.nsIn K mainGlobals "bool" = some none)
    (z3 : PySem.W.nsIn K mainGlobals "tuple" = some none)
    (z4 : PySem.W.nsIn K mainGlobals "len" = some none)
    (z5 : PySem.W.nsIn K mainGlobals "str" = some none)
    (z6 : PySem.W.nsIn K mainGlobals "all" = some none)
    (z7 : PySem.W.nsIn K mainGlobals "list" = some none)
    (z8 : PySem.W.nsIn K mainGlobals "abs" = some none)
    (z9 : PySem.W.nsIn K mainGlobals "sorted" = some none)
    (z10 : PySem.W.nsIn K mainGlobals "set" = some none)
    (z11 : PySem.W.nsIn K mainGlobals "range" = some none)
    (z12 : PySem.W.nsIn K mainGlobals "min" = some none) :
    ∃ fd : FuncData, (∀ (s : Shared) (v : Value), BindsTo s fd ⟨[v], []⟩ [("script", v)]) ∧ ∀ base : Heap, K.In base → base.Ns mainGlobals mg → FnOk l.prog w K mg base CX0 31 fa fd ["script"] (Tc.spLaw K) := by
  have e := hfa.symm.trans (PySem.W.mg_of X G a23)
  cases e
  let T : Txt K mg := {
    f_is_whole := f1, fd_is_whole := _, F_is_whole := fun_mk l1 c1 k1, g_is_whole := PySem.W.mg_of X G a1,
    b_is_whole := (fun_mk (st := s_is_whole) l1 c1 k1).binds (ps := ["thing"]) fun _ _ _ _ _ _ us hl => match us, hl with | [_], _ => rfl,
    f_is_within := f2, fd_is_within := _, F_is_within := fun_mk l2 c2 k2, g_is_within := PySem.W.mg_of X G a2,
    b_is_within := (fun_mk (st := s_is_within) l2 c2 k2).binds (ps := ["thing", "least", "most"]) fun _ _ _ _ _ _ us hl => match us, hl with | [_, _, _], _ => rfl,
    f_is_pair := f3, fd_is_pair := _, F_is_pair := fun_mk l3 c3 k3, g_is_pair := PySem.W.mg_of X G a3,
    b_is_pair := (fun_mk (st := s_is_pair) l3 c3 k3).binds (ps := ["thing"]) fun _ _ _ _ _ _ us hl => match us, hl with | [_], _ => rfl,
    f_is_change := f4, fd_is_change := _, F_is_change := fun_mk l4 c4 k4, g_is_change := PySem.W.mg_of X G a4,
    b_is_change := (fun_mk (st := s_is_change) l4 c4 k4).binds (ps := ["thing"]) fun _ _ _ _ _ _ us hl => match us, hl with | [_], _ => rfl,
    f_are_changes := f5, fd_are_changes := _, F_are_changes := fun_mk l5 c5 k5, g_are_changes := PySem.W.mg_of X G a5,
    b_are_changes := (fun_mk (st := s_are_changes) l5 c5 k5).binds (ps := ["thing"]) fun _ _ _ _ _ _ us hl => match us, hl with | [_], _ => rfl,
    f_is_entry := f6, fd_is_entry := _, F_is_entry := fun_mk l6 c6 k6, g_is_entry := PySem.W.mg_of X G a6,
    b_is_entry := (fun_mk (st := s_is_entry) l6 c6 k6).binds (ps := ["thing"]) fun _ _ _ _ _ _ us hl => match us, hl with | [_], _ => rfl,
    f_is_log := f7, fd_is_log := _, F_is_log := fun_mk l7 c7 k7, g_is_log := PySem.W.mg_of X G a7,
    b_is_log := (fun_mk (st := s_is_log) l7 c7 k7).binds (ps := ["thing"]) fun _ _ _ _ _ _ us hl => match us, hl with | [_], _ => rfl,
    f__law_bag := f8, fd__law_bag := _, F__law_bag := fun_mk l8 c8 k8, g__law_bag := PySem.W.mg_of X G a8,
    b__law_bag := (fun_mk (st := s__law_bag) l8 c8 k8).binds (ps := ["script", "k"]) fun _ _ _ _ _ _ us hl => match us, hl with | [_, _], _ => rfl,
    f__law_take := f9, fd__law_take := _, F__law_take := fun_mk l9 c9 k9, g__law_take := PySem.W.mg_of X G a9,
    b__law_take := (fun_mk (st := s__law_take) l9 c9 k9).binds (ps := ["bag", "many"]) fun _ _ _ _ _ _ us hl => match us, hl with | [_, _], _ => rfl,
    f__law_of := f10, fd__law_of := _, F__law_of := fun_mk l10 c10 k10, g__law_of := PySem.W.mg_of X G a10,
    b__law_of := (fun_mk (st := s__law_of) l10 c10 k10).binds (ps := ["bag", "some"]) fun _ _ _ _ _ _ us hl => match us, hl with | [_, _], _ => rfl,
    f__law_whole := f11, fd__law_whole := _, F__law_whole := fun_mk l11 c11 k11, g__law_whole := PySem.W.mg_of X G a11,
    b__law_whole := (fun_mk (st := s__law_whole) l11 c11 k11).binds (ps := ["thing"]) fun _ _ _ _ _ _ us hl => match us, hl with | [_], _ => rfl,
    f__law_within := f12, fd__law_within := _, F__law_within := fun_mk l12 c12 k12, g__law_within := PySem.W.mg_of X G a12,
    b__law_within := (fun_mk (st := s__law_within) l12 c12 k12).binds (ps := ["thing", "least", "most"]) fun _ _ _ _ _ _ us hl => match us, hl with | [_, _, _], _ => rfl,
    f__law_odd := f13, fd__law_odd := _, F__law_odd := fun_mk l13 c13 k13, g__law_odd := PySem.W.mg_of X G a13,
    b__law_odd := (fun_mk (st := s__law_odd) l13 c13 k13).binds (ps := ["bag"]) fun _ _ _ _ _ _ us hl => match us, hl with | [_], _ => rfl,
    f__law_spoilt := f14, fd__law_spoilt := _, F__law_spoilt := fun_mk l14 c14 k14, g__law_spoilt := PySem.W.mg_of X G a14,
    b__law_spoilt := (fun_mk (st := s__law_spoilt) l14 c14 k14).binds (ps := ["bag", "thing"]) fun _ _ _ _ _ _ us hl => match us, hl with | [_, _], _ => rfl,
    f__law_keys := f15, fd__law_keys := _, F__law_keys := fun_mk l15 c15 k15, g__law_keys := PySem.W.mg_of X G a15,
    b__law_keys := (fun_mk (st := s__law_keys) l15 c15 k15).binds (ps := ["bag"]) fun _ _ _ _ _ _ us hl => match us, hl with | [_], _ => rfl,
    f__law_changes := f16, fd__law_changes := _, F__law_changes := fun_mk l16 c16 k16, g__law_changes := PySem.W.mg_of X G a16,
    b__law_changes := (fun_mk (st := s__law_changes) l16 c16 k16).binds (ps := ["bag", "keys", "most"]) fun _ _ _ _ _ _ us hl => match us, hl with | [_, _, _], _ => rfl,
    f__law_entry := f17, fd__law_entry := _, F__law_entry := fun_mk l17 c17 k17, g__law_entry := PySem.W.mg_of X G a17,
    b__law_entry := (fun_mk (st := s__law_entry) l17 c17 k17).binds (ps := ["bag", "keys"]) fun _ _ _ _ _ _ us hl => match us, hl with | [_, _], _ => rfl,
    f__law_log := f18, fd__law_log := _, F__law_log := fun_mk l18 c18 k18, g__law_log := PySem.W.mg_of X G a18,
    b__law_log := (fun_mk (st := s__law_log) l18 c18 k18).binds (ps := ["bag", "keys", "most"]) fun _ _ _ _ _ _ us hl => match us, hl with | [_, _, _], _ => rfl,
    f__law_is_change := f19, fd__law_is_change := _, F__law_is_change := fun_mk l19 c19 k19, g__law_is_change := PySem.W.mg_of X G a19,
    b__law_is_change := (fun_mk (st := s__law_is_change) l19 c19 k19).binds (ps := ["thing"]) fun _ _ _ _ _ _ us hl => match us, hl with | [_], _ => rfl,
    f__law_are_changes := f20, fd__law_are_changes := _, F__law_are_changes := fun_mk l20 c20 k20, g__law_are_changes := PySem.W.mg_of X G a20,
    b__law_are_changes := (fun_mk (st := s__law_are_changes) l20 c20 k20).binds (ps := ["thing"]) fun _ _ _ _ _ _ us hl => match us, hl with | [_], _ => rfl,
    f__law_is_entry := f21, fd__law_is_entry := _, F__law_is_entry := fun_mk l21 c21 k21, g__law_is_entry := PySem.W.mg_of X G a21,
    b__law_is_entry := (fun_mk (st := s__law_is_entry) l21 c21 k21).binds (ps := ["thing"]) fun _ _ _ _ _ _ us hl => match us, hl with | [_], _ => rfl,
    f__law_is_log := f22, fd__law_is_log := _, F__law_is_log := fun_mk l22 c22 k22, g__law_is_log := PySem.W.mg_of X G a22,
    b__law_is_log := (fun_mk (st := s__law_is_log) l22 c22 k22).binds (ps := ["thing"]) fun _ _ _ _ _ _ us hl => match us, hl with | [_], _ => rfl,
    f_law := fa, fd_law := _, F_law := fun_mk l23 c23 k23, g_law := PySem.W.mg_of X G a23,
    b_law := (fun_mk (st := s_law) l23 c23 k23).binds (ps := ["script"]) fun _ _ _ _ _ _ us hl => match us, hl with | [_], _ => rfl,
    t_KEYS := tk1, k_KEYS := PySem.W.mg_of X G v1,
    t_MOST_WORTH := tk2, k_MOST_WORTH := PySem.W.mg_of X G v2,
    t_MOST_CHANGES := tk3, k_MOST_CHANGES := PySem.W.mg_of X G v3,
    t_MOST_LOG := tk4, k_MOST_LOG := PySem.W.mg_of X G v4,
    z_isinstance := PySem.W.mg_none_of X G z0,
    z_int := PySem.W.mg_none_of X G z1,
    z_bool := PySem.W.mg_none_of X G z2,
    z_tuple := PySem.W.mg_none_of X G z3,
    z_len := PySem.W.mg_none_of X G z4,
    z_str := PySem.W.mg_none_of X G z5,
    z_all := PySem.W.mg_none_of X G z6,
    z_list := PySem.W.mg_none_of X G z7,
    z_abs := PySem.W.mg_none_of X G z8,
    z_sorted := PySem.W.mg_none_of X G z9,
    z_set := PySem.W.mg_none_of X G z10,
    z_range := PySem.W.mg_none_of X G z11,
    z_min := PySem.W.mg_none_of X G z12 }
  exact ⟨T.fd_law, fun s v => .of_eq rfl, fun base _ _ => ok_law T⟩
end K02
open PySem PySem.W PyProof.Rows
set_option maxHeartbeats 0 in
theorem PySem.Challenge.cw_tidecopy_k02_entries_and_logs_told_holds : PySem.Challenge.rw_tidecopy_k02_entries_and_logs_told.Holds := by
  w_on; o_law; k_head; (case hw => w_witness2)
  k_fill
  refine L2.walk_of (l := PySem.Challenge.rw_tidecopy_k02_entries_and_logs_told) (n := 63) (k := 31) (x := "script") (CX := fun _ => L2.CX0) (sp := fun w => Tc.spLaw _) rfl (by decide) rfl ⟨rfl, by decide, by decide⟩ (fun w h Y => PySem.W.kIn_of Y) ?F (fun _ _ a ns hl _ hS => ⟨a, ns, rfl, hS, hl, fun _ => rfl⟩) (fun _ _ _ _ _ h => h)
  case F =>
    intro w mg fa h KX G hmg
    refine' K02.all_mk KX G hmg ?a1 ?l1 ?c1 ?k1 ?a2 ?l2 ?c2 ?k2 ?a3 ?l3 ?c3 ?k3 ?a4 ?l4 ?c4 ?k4 ?a5 ?l5 ?c5 ?k5 ?a6 ?l6 ?c6 ?k6 ?a7 ?l7 ?c7 ?k7 ?a8 ?l8 ?c8 ?k8 ?a9 ?l9 ?c9 ?k9 ?a10 ?l10 ?c10 ?k10 ?a11 ?l11 ?c11 ?k11 ?a12 ?l12 ?c12 ?k12 ?a13 ?l13 ?c13 ?k13 ?a14 ?l14 ?c14 ?k14 ?a15 ?l15 ?c15 ?k15 ?a16 ?l16 ?c16 ?k16 ?a17 ?l17 ?c17 ?k17 ?a18 ?l18 ?c18 ?k18 ?a19 ?l19 ?c19 ?k19 ?a20 ?l20 ?c20 ?k20 ?a21 ?l21 ?c21 ?k21 ?a22 ?l22 ?c22 ?k22 ?a23 ?l23 ?c23 ?k23 ?v1 ?v2 ?v3 ?v4 ?z0 ?z1 ?z2 ?z3 ?z4 ?z5 ?z6 ?z7 ?z8 ?z9 ?z10 ?z11 ?z12
    (case a1 => k_is); (case l1 => k_is); (case c1 => k_is); (case k1 => k_is); (case a2 => k_is); (case l2 => k_is); (case c2 => k_is); (case k2 => k_is)
    (case a3 => k_is); (case l3 => k_is); (case c3 => k_is); (case k3 => k_is); (case a4 => k_is); (case l4 => k_is); (case c4 => k_is); (case k4 => k_is)
    (case a5 => k_is); (case l5 => k_is); (case c5 => k_is); (case k5 => k_is); (case a6 => k_is); (case l6 => k_is); (case c6 => k_is); (case k6 => k_is)
    (case a7 => k_is); (case l7 => k_is); (case c7 => k_is); (case k7 => k_is); (case a8 => k_is); (case l8 => k_is); (case c8 => k_is); (case k8 => k_is)
    (case a9 => k_is); (case l9 => k_is); (case c9 => k_is); (case k9 => k_is); (case a10 => k_is); (case l10 => k_is); (case c10 => k_is); (case k10 => k_is)
    (case a11 => k_is); (case l11 => k_is); (case c11 => k_is); (case k11 => k_is); (case a12 => k_is); (case l12 => k_is); (case c12 => k_is); (case k12 => k_is)
    (case a13 => k_is); (case l13 => k_is); (case c13 => k_is); (case k13 => k_is); (case a14 => k_is); (case l14 => k_is); (case c14 => k_is); (case k14 => k_is)
    (case a15 => k_is); (case l15 => k_is); (case c15 => k_is); (case k15 => k_is); (case a16 => k_is); (case l16 => k_is); (case c16 => k_is); (case k16 => k_is)
    (case a17 => k_is); (case l17 => k_is); (case c17 => k_is); (case k17 => k_is); (case a18 => k_is); (case l18 => k_is); (case c18 => k_is); (case k18 => k_is)
    (case a19 => k_is); (case l19 => k_is); (case c19 => k_is); (case k19 => k_is); (case a20 => k_is); (case l20 => k_is); (case c20 => k_is); (case k20 => k_is)
    (case a21 => k_is); (case l21 => k_is); (case c21 => k_is); (case k21 => k_is); (case a22 => k_is); (case l22 => k_is); (case c22 => k_is); (case k22 => k_is)
    (case a23 => k_is); (case l23 => k_is); (case c23 => k_is); (case k23 => k_is); (case v1 => k_is); (case v2 => k_is); (case v3 => k_is); (case v4 => k_is)
    (case z0 => k_is); (case z1 => k_is); (case z2 => k_is); (case z3 => k_is); (case z4 => k_is); (case z5 => k_is); (case z6 => k_is); (case z7 => k_is)
    (case z8 => k_is); (case z9 => k_is); (case z10 => k_is); (case z11 => k_is); (case z12 => k_is)
