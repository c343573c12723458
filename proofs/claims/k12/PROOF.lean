import PyProof.Rows.All
import Wide.All
import OpenK.AllK
import Wide.FinOn
import HandS.ForMost
import HandS.Exc
import HandS.ExcOwn
import HandS.WordsExc
import HandS.TryOnly
import HandS.ExcInit
import HandS.ExcField
import HandS.ExcIs
import HandS.IsInst
import HandS.TryMany
import HandS.Wide
import HandS.Steps
import HandS.TupAny
import HandS.Walk
import HandS.Evl
import KE.GoesEnum
import KE.KExcIs
import HandS.Conv
import HandS.Defaults
import HandS.Deep
import PyProof.EnumMake
import KE.GoesMore
import HandS.Replace
import HandS.ReplaceLit
import HandS.RaiseMore
import PyProof.ReprBulk
import PySem.Challenge.RW_falseglim_k12_weather_lines
import KE.IntTextLaws
import PyProof.Rows.StrSplitCount
import PyProof.FitsStr
import PyProof.Rows.StrFit
set_option Elab.async false
set_option linter.all false
set_option maxRecDepth 100000
set_option maxHeartbeats 4000000
/-! Rules that ask nothing of the kinds: one rule for each sign of Python, its reading told by the values. -/
namespace Fg
open PySem PySem.Spec PyProof.Rows L2

/-- a text by its signs -/
def S (l : List Nat) : V := .str ⟨l.toArray⟩
theorem S_inj {l m : List Nat} : S l = S m ↔ l = m := by
  constructor
  · intro h
    have h1 := V.str.inj h
    have h2 := congrArg PySem.Str.cps h1
    exact List.toArray_inj h2
  · rintro rfl; rfl
theorem S_dec {l m : List Nat} : decide (S l = S m) = decide (l = m) := by
  rw [Bool.eq_iff_iff]; simp [S_inj]
theorem str_len (l : List Nat) : (⟨l.toArray⟩ : Str).length = l.length := by
  show l.toArray.size = l.length
  simp
theorem pe_S {X : Cx} {x : Str} {j : Nat} {pos : Pos} (l : List Nat) (h : x = ⟨l.toArray⟩ := by decide +kernel) : PE X (.Constant (.str x) j pos) (tC (S l)) := by
  subst h
  exact pe_str

/-! ### either of two readings -/
def or2 (r r' : R2) : R2 := fun x y H Q => r x y H Q ∨ r' x y H Q
theorem or2_op {X : Cx} {f : Value → Value → Sem Value} {r r' : R2} (h : OpR X f r) (h' : OpR X f r') : OpR X f (or2 r r') := by
  intro pins s σ H x y v u Q I rx ry q
  rcases q with q | q
  · exact h pins s σ H x y v u Q I rx ry q
  · exact h' pins s σ H x y v u Q I rx ry q
theorem or2_ix {X : Cx} {r r' : R2} (h : IxR X r) (h' : IxR X r') : IxR X (or2 r r') := by
  intro value slice pins s σ H x y v u Q I rx ry q hs
  rcases q with q | q
  · exact h value slice pins s σ H x y v u Q I rx ry q hs
  · exact h' value slice pins s σ H x y v u Q I rx ry q hs
abbrev RC := List V → Hp → VK → Prop
def orC (r r' : RC) : RC := fun xs H Q => r xs H Q ∨ r' xs H Q
theorem orC_call {X : Cx} {f : Value} {r r' : RC} (h : CallR X f r) (h' : CallR X f r') : CallR X f (orC r r') := by
  intro pins s σ H xs us Q I rx q
  rcases q with q | q
  · exact h pins s σ H xs us Q I rx q
  · exact h' pins s σ H xs us Q I rx q
abbrev RS := V → Option Int → Option Int → Hp → VK → Prop
def orS (r r' : RS) : RS := fun x lo hi H Q => r x lo hi H Q ∨ r' x lo hi H Q
theorem orS_sl {X : Cx} {r r' : RS} (h : SlR X r) (h' : SlR X r') : SlR X (orS r r') := by
  intro pins s σ H x v vl vu lo hi sl Q I rx hs pl pu q
  rcases q with q | q
  · exact h pins s σ H x v vl vu lo hi sl Q I rx hs pl pu q
  · exact h' pins s σ H x v vl vu lo hi sl Q I rx hs pl pu q

/-! ### + - * // % ** -/
def rAddI : R2 := rI0 fun i j => .int (i + j)
def rAddT : R2 := fun x y H Q => ∃ i j, x = .str i ∧ y = .str j ∧ i.length + j.length ≤ sizeLine ∧ Q (.str (i ++ j)) H
def addP (K : PySem.W.Frag) : R2 := or2 rAddI (or2 rAddT (or2 rCat (rCatA K)))
theorem op_addP {X : Cx} : OpR X (binaryOp .Add) (addP X.K) := or2_op op_add (or2_op op_add_str (or2_op op_cat op_catA))
def subP : R2 := rI0 fun i j => .int (i - j)
theorem op_subP {X : Cx} : OpR X (binaryOp .Sub) subP := op_sub
/-- a text so many times -/
def rRepS : R2 := fun x y H Q => ∃ (l : List Nat) (n : Nat), x = S l ∧ y = .int (n : Int) ∧ l.length * n ≤ 100000 ∧ n ≤ 100000 ∧ Q (S (List.replicate n l).flatten) H
theorem foldl_app (l : List Nat) : ∀ (n : Nat) (acc : List Nat), (List.replicate n l.toArray).foldl (· ++ ·) acc.toArray = (acc ++ (List.replicate n l).flatten).toArray
  | 0, acc => by simp
  | n + 1, acc => by
    rw [List.replicate_succ, List.foldl_cons, List.append_toArray, foldl_app l n (acc ++ l), List.replicate_succ, List.flatten_cons, List.append_assoc]
theorem op_repS {X : Cx} : OpR X (binaryOp .Mult) rRepS := by
  intro pins s σ H x y v u Q I rx ry h
  obtain ⟨l, n, rfl, rfl, hz, hn, q⟩ := h
  obtain ⟨t, rfl⟩ := rx
  obtain ⟨t', rfl⟩ := ry
  have hl := str_len l
  have hs : sizeLine = 16777216 := sizeLine_eq
  refine PySem.P.mul_str ?_ (fun h1 h2 => ?_) (fun h1 h2 => ?_) ?_
  · rw [decide_eq_false (by omega), decide_eq_false (by omega)]; rfl
  · rw [hl]
    have hn0 : (0 : Int) < (n : Int) := by omega
    have : ((l.length : Int)) ≤ (2 ^ 63 - 1) / (n : Int) := by
      rw [Int.le_ediv_iff_mul_le hn0]
      have : ((l.length * n : Nat) : Int) ≤ 100000 := by omega
      rw [Int.natCast_mul] at this
      omega
    omega
  · rw [hl, Int.toNat_natCast]
    unfold PySem.Builtin.Str.tooLong
    rw [decide_eq_false]
    omega
  · by_cases h1 : (n : Int) < 1
    · rw [if_pos h1]
      have e : n = 0 := by omega
      subst e
      exact ⟨by decide, S [], H, I.tok _, ⟨_, rfl⟩, by simpa using q⟩
    · rw [if_neg h1]
      by_cases h2 : ((n : Int) == 1 || (⟨l.toArray⟩ : Str).length == 0) = true
      · rw [if_pos h2]
        have e : (List.replicate n l).flatten = l := by
          rw [hl, Bool.or_eq_true, beq_iff_eq, beq_iff_eq] at h2
          rcases h2 with h2 | h2
          · have e : n = 1 := by omega
            subst e; simp
          · have e : l = [] := List.length_eq_zero_iff.mp h2
            subst e; simp
        rw [e] at q
        exact ⟨S l, H, I, ⟨_, rfl⟩, q⟩
      · rw [if_neg h2]
        have e : (⟨(List.replicate ((n : Int)).toNat l.toArray).foldl (· ++ ·) #[]⟩ : Str) = ⟨((List.replicate n l).flatten).toArray⟩ := by
          rw [Int.toNat_natCast]
          have := foldl_app l n []
          simpa using this
        refine ⟨?_, S (List.replicate n l).flatten, H, I.tok _, ⟨_, by rw [e]⟩, q⟩
        rw [e, str_len]
        simp only [List.length_flatten, List.map_replicate, List.sum_replicate_nat]
        rw [Nat.mul_comm]
        omega
def rMulI : R2 := rI (fun i j => IntMulOk i j) fun i j => .int (i * j)
theorem op_mulI {X : Cx} : OpR X (binaryOp .Mult) rMulI := opI fun _ _ _ _ _ _ _ hc q => mul_int q hc
def mulP : R2 := or2 rMulI (or2 rRepS rRep)
theorem op_mulP {X : Cx} : OpR X (binaryOp .Mult) mulP := or2_op op_mulI (or2_op op_repS op_rep)
def modP : R2 := rI (fun _ j => 0 < j) fun i j => .int (i % j)
theorem op_modP {X : Cx} : OpR X (binaryOp .Mod) modP := op_mod
def fdivP : R2 := rI CDivW fun i j => .int (i / j)
theorem op_fdivP {X : Cx} : OpR X (binaryOp .FloorDiv) fdivP := op_fdivW
/-- i ** j, the result below some hundred million bits -/
def powP : R2 := rI (fun i j => 0 ≤ j ∧ (Builtin.Int.intBits i : Int) * j ≤ 2 ^ 27) fun i j => .int (i ^ j.toNat)
theorem op_powP {X : Cx} : OpR X (binaryOp .Pow) powP := opI fun _ _ _ _ _ _ _ hc q => pow_int hc.1 hc.2 q
/-! ### comparisons -/
def eqP (K : PySem.W.Frag) : R2 := or2 rEq (rEqD K)
theorem op_eqP {X : Cx} (hu : X.A.units + 64 < cLine) : OpR X (compareOp .Eq) (eqP X.K) := or2_op op_eq (op_eqD hu)
def neP (K : PySem.W.Frag) : R2 := or2 rNe (rNeD K)
theorem op_neP {X : Cx} (hu : X.A.units + 64 < cLine) : OpR X (compareOp .NotEq) (neP X.K) := or2_op op_ne (op_neD hu)
def ltP : R2 := or2 (rI0 fun i j => .bl (decide (i < j))) fun x y H Q => ∃ i j, x = .str i ∧ y = .str j ∧ Q (.bl (decide (i.cps.toList < j.cps.toList))) H
theorem op_ltP {X : Cx} : OpR X (compareOp .Lt) ltP := or2_op op_lt op_lt_str
def leP : R2 := rI0 fun i j => .bl (decide (i ≤ j))
theorem op_leP {X : Cx} : OpR X (compareOp .LtE) leP := op_le
def gtP : R2 := rI0 fun i j => .bl (decide (j < i))
theorem op_gtP {X : Cx} : OpR X (compareOp .Gt) gtP := op_gt
def geP : R2 := rI0 fun i j => .bl (decide (j ≤ i))
theorem op_geP {X : Cx} : OpR X (compareOp .GtE) geP := op_ge
def isP : R2 := fun x y H Q => y = .non ∧ Q (.bl (decide (x = .non))) H
theorem op_isP {X : Cx} : OpR X (compareOp .Is) isP := op_isN
def isNotP : R2 := fun x y H Q => y = .non ∧ Q (.bl (!decide (x = .non))) H
theorem op_isNotP {X : Cx} : OpR X (compareOp .IsNot) isNotP := op_notN
def rInSg : R2 := fun x y H Q => ∃ (c : Nat) (z : Str), x = .str ⟨#[c]⟩ ∧ y = .str z ∧ Q (.bl (decide (c ∈ z.cps.toList))) H
def rNotInSg : R2 := fun x y H Q => ∃ (c : Nat) (z : Str), x = .str ⟨#[c]⟩ ∧ y = .str z ∧ Q (.bl (!decide (c ∈ z.cps.toList))) H
def inP (K : PySem.W.Frag) : R2 := or2 rInSg (rIn K false)
theorem op_inP {X : Cx} : OpR X (compareOp .In) (inP X.K) := or2_op op_in_sign op_in_seq
def notInP (K : PySem.W.Frag) : R2 := or2 rNotInSg (rIn K true)
theorem op_notInP {X : Cx} : OpR X (compareOp .NotIn) (notInP X.K) := or2_op op_notIn_sign op_notIn_seq
/-! ### subscripts, slices -/
def ixP (K : PySem.W.Frag) : R2 := or2 (rIxL K) (or2 (rIxT K) rIxS)
theorem ix_P {X : Cx} : IxR X (ixP X.K) := or2_ix ix_list (or2_ix ix_tup ix_str)
def slP (K : PySem.W.Frag) : RS := orS (rSlL K) (orS (rSlA K) rSlS)
theorem sl_P {X : Cx} : SlR X (slP X.K) := orS_sl sl_list (orS_sl sl_tupA sl_str)
/-! ### what is walked -/
def iAny (K : PySem.W.Frag) (te : TE) : TI := fun σ H R => te σ H fun x H1 => (∃ a xs, x = .ref a ∧ SqL K H1 a xs ∧ R (Itl K a) H1) ∨ (∃ a xs, x = .ref a ∧ SqT K H1 a xs ∧ R (Itt K a) H1) ∨ (∃ z, x = .str z ∧ R (Its z) H1)
section
variable {X : Cx} {tg e : Expr} {te : TE}
theorem pi_any (he : PE X e te) : PI X tg e (iAny X.K te) := by
  refine ⟨fun pins s σ H R I h => thn (he.run pins s σ H _ I h) fun v s1 ⟨x, H1, J, r1, q1⟩ => ?_⟩
  rcases q1 with ⟨a, xs, rfl, hq, q⟩ | ⟨a, xs, rfl, hq, q⟩ | ⟨z, rfl, q⟩
  · cases r1
    obtain ⟨its, rv, pl, hz⟩ := J.list hq
    exact wpAny_pyIter_list pl.isList (pi_one (tk := s1.toks) J _ (turn_list a _) ⟨_, Heap.get?_push_size _ rfl, rfl, rfl⟩ q)
  · cases r1
    obtain ⟨its, rv, pl, hz⟩ := J.tuple hq
    exact wpAny_pyIter_tuple (show s1.heap.IsTuple a its.toArray from pl) (pi_one (tk := s1.toks) J _ (turn_tuple a _) ⟨_, Heap.get?_push_size _ rfl, rfl, rfl⟩ q)
  · obtain ⟨t, rfl⟩ := r1
    cases hw : z.cps.all (· < 128)
    · exact wpAny_pyIter_wide hw (pi_one (tk := s1.toks) J _ (turn_str _ z t "str_iterator" (.inr rfl)) ⟨_, Heap.get?_push_size _ rfl, rfl, rfl⟩ q)
    · exact wpAny_pyIter_ascii hw (pi_one (tk := s1.toks) J _ (turn_str _ z t "str_ascii_iterator" (.inl rfl)) ⟨_, Heap.get?_push_size _ rfl, rfl, rfl⟩ q)
end
/-! ### enumerate(a text) -/
/-- the signs of z, each in a new pair with its place -/
def Ites (z : Str) : It :=
  ⟨fun i _ => i < z.cps.size, fun i H v H' => ∃ T c, v = .ref T ∧ H T = none ∧ H' = upd H T (.tup [.int (i : Nat), .str ⟨#[c]⟩]) ∧ z.cps[i]? = some c, fun i _ => i = z.cps.size⟩
theorem turn_enumS {P : Program} {w : World} {K : PySem.W.Frag} {elts : List Expr} {kk : Nat} {tpos : Pos} (z : Str) (t : Tok) (e it : Addr) :
    Turn P w K (.Tuple elts kk tpos) (Ites z) [e, it] e (fun i h => (∃ old, IsEnum h e it ((i : Nat) : Int) old) ∧ h.IsStrIter it (strIterType z) z t i ∧ e ≠ it) where
  mem := List.mem_cons_self ..
  obj := fun i h st b hb => by
    obtain ⟨⟨old, hE⟩, ⟨o, hO, hC, hD⟩, _⟩ := st
    rcases List.mem_cons.mp hb with rfl | hb
    · exact ⟨_, hE, fun v q => nomatch q⟩
    · rw [List.mem_singleton.mp hb]
      exact ⟨o, hO, fun v q => by rw [hD] at q; cases q⟩
  keep := fun i h h' st k => by
    obtain ⟨⟨old, hE⟩, ⟨o, hO, r⟩, hne⟩ := st
    exact ⟨⟨old, k e (by simp) _ hE⟩, ⟨o, k it (by simp) _ hO, r⟩, hne⟩
  item := by
    intro X hP hW hK hc i pins s σ H E I hf st hg
    subst hP hW hK
    obtain ⟨⟨old, hE⟩, hS, hne⟩ := st
    have le : e < s.heap.objs.size := Heap.lt_size hE
    have li : it < s.heap.objs.size := by obtain ⟨_, q, _⟩ := hS; exact Heap.lt_size q
    have D := Draws.text (prog := X.prog) (w := X.w) (A := X.A.in1) (I.ok.hd hc) it z t
    refine wpAny_pyNext_enum_itemC D hE hS hg hne (by simp [hne]) fun x h' tk hx hO hS' hT hsz hk => ?_
    obtain ⟨c, u, hcx, rfl⟩ := hx
    refine ⟨_, rfl, wpAny_letOwnedTupleGo_enum (s := { s with heap := h', toks := tk + 1 }) hO fun h2 hE2 sb => ?_⟩
    have T2 : h2.get? s.heap.objs.size = some { cls := .type "tuple", data := .seq #[.int i tk, .str ⟨#[c]⟩ u] } := (sb.2 _ (Nat.ne_of_gt le)).trans hT
    have new : ObjOk X.prog X.w (upd H s.heap.objs.size (.tup [.int (i : Nat), .str ⟨#[c]⟩])) h2 s.heap.objs.size (.tup [.int (i : Nat), .str ⟨#[c]⟩]) :=
      ⟨by show 2 ≤ sizeLine; decide, [.int i tk, .str ⟨#[c]⟩ u], .cons ⟨_, rfl⟩ (.cons ⟨_, rfl⟩ .nil), ⟨_, T2, rfl, _, rfl⟩⟩
    have J : Inv X pins σ (upd H s.heap.objs.size (.tup [.int (i : Nat), .str ⟨#[c]⟩])) { s with heap := h2, toks := tk + 1 } :=
      I.turnedNew (ch := [e, it]) (fun b ob hb q => (sb.2 b (fun y => hb (by simp [y]))).trans (hk b ob (fun y => hb (by simp [y])) (fun y => hb (by simp [y])) q)) hf (Nat.le_refl _) new
    refine ⟨.ref s.heap.objs.size, _, J, rfl, ⟨_, c, rfl, I.hok.fresh (Nat.le_refl _), rfl, hcx⟩, ⟨⟨.str ⟨#[c]⟩ u, ?_⟩, ?_, hne⟩, fun b hb => ?_⟩
    · have e1 : ((i + 1 : Nat) : Int) = (i : Int) + 1 := by omega
      rw [e1]
      exact hE2
    · obtain ⟨o, ho, r⟩ := hS'
      exact ⟨o, (sb.2 it (Ne.symm hne)).trans ho, r⟩
    · have lb : b < s.heap.objs.size := by
        rcases List.mem_cons.mp hb with rfl | hb
        · exact le
        · rw [List.mem_singleton.mp hb]; exact li
      rw [upd_ne (Nat.ne_of_lt lb)]
      exact (hf b hb).1
  done := by
    intro X hP hW hK hc i pins s σ H E I hf st hg
    subst hP hW hK
    obtain ⟨⟨old, hE⟩, hS, hne⟩ := st
    obtain ⟨f0, f1, f2, f3, f4, f5⟩ := hf it (by simp)
    have D := Draws.text (prog := X.prog) (w := X.w) (A := X.A.in1) (I.ok.hd hc) it z t
    have hg' : i = z.cps.size := hg
    subst hg'
    exact wpAny_pyNext_enum_endD D hE hS fun h' eb => ⟨rfl, I.turned (t' := s.toks) (fun b o hb q => eb b o hb q) f0 f1 f3 f4 f5⟩
  self := fun A i s Q E st h => by
    obtain ⟨⟨_, hE⟩, _⟩ := st
    exact wpAny_pyIter_enum hE h
def iEnumP (K : PySem.W.Frag) (ta : TA) : TI := fun σ H R => ta σ H fun vs H1 => (∃ a xs, vs = [.ref a] ∧ SqL K H1 a xs ∧ R (Ite K a) H1) ∨ (∃ z, vs = [.str z] ∧ R (Ites z) H1)
theorem pi_enumP {X : Cx} {e : Expr} {ta : TA} {p pos tpos : Pos} {elts : List Expr} {kk : Nat} (hg : Gl X "enumerate") (hm : X.mg "enumerate" = none) (ha : PA X [e] ta) (hs : starEach [e] X.env = [(false, eval e X.env)] := by rfl) :
    PI X (.Tuple elts kk tpos) (.Call (.Name "enumerate" p) [e] [] pos) (iEnumP X.K ta) := by
  refine ⟨fun pins s σ H R I h => Call_ (ld_blt I hg hm boot_enumerate (PyProof.Rows.callWith_type1 (thn (ha.run pos pins s σ H _ I h) fun us s1 ⟨vs, H1, J, r1, q1⟩ => ?_) hs rfl))⟩
  have far : ∀ b ∈ [s1.heap.objs.size + 1, s1.heap.objs.size], s1.heap.objs.size ≤ b := fun b hb => by
    rcases List.mem_cons.mp hb with rfl | hb
    · exact Nat.le_succ _
    · rw [List.mem_singleton.mp hb]; exact Nat.le_refl _
  rcases q1 with ⟨a, xs, rfl, hq, q⟩ | ⟨z, rfl, q⟩
  · cases r1 with
    | cons r rr =>
      cases rr
      cases r
      obtain ⟨its, rv, pl, hz⟩ := J.list hq
      refine call_enumerate_list pl.isList fun h' hE hit hsz hk => wpAny_pyIter_enum hE ?_
      have J2 : Inv X pins σ H1 { s1 with heap := h' } := J.kept (t' := s1.toks) hk
      exact ⟨_, _, _, _, H1, rfl, J2, turn_enum a (s1.heap.objs.size + 1) s1.heap.objs.size, ⟨⟨.none, hE⟩, hit, Nat.succ_ne_self _⟩, fun b hb => J.fpOk (far b hb) (J.hok.fresh (far b hb)), q⟩
  · cases r1 with
    | cons r rr =>
      cases rr
      obtain ⟨t, rfl⟩ := r
      refine call_enumerate_str fun h' hE hit hsz hk => wpAny_pyIter_enum hE ?_
      have J2 : Inv X pins σ H1 { s1 with heap := h' } := J.kept (t' := s1.toks) hk
      exact ⟨_, _, _, _, H1, rfl, J2, turn_enumS z t (s1.heap.objs.size + 1) s1.heap.objs.size, ⟨⟨.none, hE⟩, hit, Nat.succ_ne_self _⟩, fun b hb => J.fpOk (far b hb) (J.hok.fresh (far b hb)), q⟩
end Fg
/-! Steps: what a reading asks, one sign of Python at a time. -/
namespace Fg
open PySem PySem.Spec PyProof.Rows L2
section
variable {K : PySem.W.Frag} {σ : L2.St} {H : Hp} {Q : VK} {D : Ends} {ta tb tc te : TE} {t u : TT} {i j : Nat} {v x y : V} {tr tq : TS} {QB : Bool → Hp → Prop} {QL : List V → Hp → Prop} {Qs : L2.St → Hp → Prop} {tl : TA}
theorem i_var (h : σ[i]? = some (some v)) (q : Q v H) : tVar i σ H Q := ⟨v, h, q⟩
theorem i_c (q : Q v H) : tC v σ H Q := q
theorem i_seq (q : tr { D with nx := tq D } σ H) : tSeq tr tq D σ H := q
theorem i_next (q : D.nx σ H) : tNext D σ H := q
theorem i_brk (q : D.bk σ H) : tBreak D σ H := q
theorem i_cont (q : D.ct σ H) : tCont D σ H := q
theorem i_asg {g : TG} (q : te σ H fun x H1 => g x σ H1 D.nx) : tAsg te g D σ H := q
theorem i_gname (q : Qs (σ.set i (some v)) H) : gName i v σ H Qs := q
theorem i_gname' {σ' : L2.St} (e : σ.set i (some v) = σ') (q : Qs σ' H) : gName i v σ H Qs := by
  subst e; exact q
theorem i_ret (q : te σ H D.rt) : tRet te D σ H := q
theorem i_retN (q : D.rt .non H) : tRetN D σ H := q
theorem i_drop (q : te σ H fun _ H1 => D.nx σ H1) : tDrop te D σ H := q
theorem i_ifS (q : t σ H fun b H1 => if b = true then tr D σ H1 else tq D σ H1) : tIfS t tr tq D σ H := q
theorem i_test (q : te σ H fun x H' => ∃ k, x = .bl k ∧ QB k H') : tTest te σ H QB := q
theorem i_B (q : te σ H fun x H' => ∃ k, x = .bl k ∧ QB k H') : tB te σ H QB := q
theorem i_exbl {P : Bool → Prop} {b : Bool} (q : P b) : ∃ k, V.bl b = .bl k ∧ P k := ⟨b, rfl, q⟩
theorem i_and (q : t σ H fun c H1 => if c = true then u σ H1 QB else QB false H1) : tAnd t u σ H QB := q
theorem i_or (q : t σ H fun c H1 => if c = true then QB true H1 else u σ H1 QB) : tOr t u σ H QB := q
theorem i_not (q : t σ H fun c H1 => QB (!c) H1) : tNot t σ H QB := q
theorem i_andV (q : ta σ H fun x H1 => ∃ c, x = .bl c ∧ if c = true then tb σ H1 Q else Q (.bl false) H1) : tAndV ta tb σ H Q := q
theorem i_orV (q : ta σ H fun x H1 => ∃ c, x = .bl c ∧ if c = true then Q (.bl true) H1 else tb σ H1 Q) : tOrV ta tb σ H Q := q
theorem i_notV (q : ta σ H fun x H1 => ∃ c, x = .bl c ∧ Q (.bl (!c)) H1) : tNotV ta σ H Q := q
theorem i_ifE (q : t σ H fun c H1 => if c = true then ta σ H1 Q else tb σ H1 Q) : tIf t ta tb σ H Q := q
theorem i_op {r : R2} (q : ta σ H fun x H1 => tb σ H1 fun y H2 => r x y H2 Q) : tOp r ta tb σ H Q := q
theorem i_un {r : V → Hp → VK → Prop} (q : ta σ H fun x H1 => r x H1 Q) : tUn r ta σ H Q := q
theorem i_neg {k : Int} (q : Q (.int (-k)) H) : rU (fun i => .int (-i)) (.int k) H Q := ⟨k, rfl, q⟩
theorem i_chain {r r' : R2} (q : ta σ H fun x H1 => tb σ H1 fun y H2 => r x y H2 fun z H3 => ∃ k, z = .bl k ∧ (if k = true then tc σ H3 fun w' H4 => r' y w' H4 Q else Q (.bl false) H3)) : tChain r r' ta tb tc σ H Q := q
theorem i_nil (q : QL [] H) : tNil σ H QL := q
theorem i_cons (q : te σ H fun x H1 => tl σ H1 fun xs H2 => QL (x :: xs) H2) : tCons te tl σ H QL := q
theorem i_call {sp : Sp} {E : XK} (q : tl σ H fun vs H1 => sp (vs ++ []) H1 Q E) : tCall sp [] E tl σ H Q := q
theorem i_callS {sp : Sp} {E : L2.St → XK} (q : tl σ H fun vs H1 => sp vs H1 Q (E σ)) : tCallS sp E tl σ H Q := q
theorem i_cb {r : RC} (q : tl σ H fun vs H1 => r vs H1 Q) : tCB r tl σ H Q := q
theorem i_tup (q : tl σ H fun xs H1 => xs.length ≤ sizeLine ∧ ∀ p, H1 p = none → Q (.ref p) (upd H1 p (.tup xs))) : tTup tl σ H Q := q
theorem i_lst (q : tl σ H fun xs H1 => xs.length ≤ sizeLine ∧ ∀ p, H1 p = none → Q (.ref p) (upd H1 p (.lst xs))) : tLst tl σ H Q := q
theorem i_new {n : Nat} {P : Addr → Prop} (h : n ≤ 100000) (q : ∀ p, H p = none → P p) : n ≤ sizeLine ∧ ∀ p, H p = none → P p := ⟨Nat.le_trans h (by decide), q⟩
theorem i_sl {r : RS} {t1 t2 : TO} (q : te σ H fun x H1 => t1 σ H1 fun l H2 => t2 σ H2 fun u H3 => r x l u H3 Q) : tSl r te t1 t2 σ H Q := q
theorem i_nopart {QO : Option Int → Hp → Prop} (q : QO none H) : tNoPart σ H QO := q
theorem i_part {QO : Option Int → Hp → Prop} (q : te σ H fun x H1 => ∃ i, x = .int i ∧ QO (some i) H1) : tPart te σ H QO := q
theorem i_exint {P : Int → Prop} {k : Int} (q : P k) : ∃ i, V.int k = .int i ∧ P i := ⟨k, rfl, q⟩
theorem i_dec {c : Prop} [Decidable c] {A B : Prop} (h1 : c → A) (h2 : ¬ c → B) : if decide c = true then A else B := by
  by_cases h : c
  · rw [decide_eq_true h, if_pos rfl]; exact h1 h
  · rw [decide_eq_false h, if_neg (by decide)]; exact h2 h
theorem i_decN {c : Prop} [Decidable c] {A B : Prop} (h1 : ¬ c → A) (h2 : c → B) : if (!decide c) = true then A else B := by
  by_cases h : c
  · rw [decide_eq_true h]; exact h2 h
  · rw [decide_eq_false h]; exact h1 h
theorem i_bool {b : Bool} {A B : Prop} (h1 : b = true → A) (h2 : b = false → B) : if b = true then A else B := by
  cases b with
  | true => exact h1 rfl
  | false => exact h2 rfl
theorem i_tt {A B : Prop} (h : A) : if true = true then A else B := h
theorem i_ff {A B : Prop} (h : B) : if false = true then A else B := h
theorem i_nott {A B : Prop} (h : B) : if (!true) = true then A else B := h
theorem i_notf {A B : Prop} (h : A) : if (!false) = true then A else B := h
/-! values -/
variable {a b : Int} {l m : List Nat}
theorem i_add_int (q : Q (.int (a + b)) H) : addP K (.int a) (.int b) H Q := .inl ⟨a, b, rfl, rfl, q⟩
theorem i_add_str (h : l.length + m.length ≤ 100000) (q : Q (S (l ++ m)) H) : addP K (S l) (S m) H Q := by
  refine .inr (.inl ⟨⟨l.toArray⟩, ⟨m.toArray⟩, rfl, rfl, ?_, ?_⟩)
  · rw [str_len, str_len]; exact Nat.le_trans h (by decide)
  · have e : (⟨l.toArray⟩ : Str) ++ ⟨m.toArray⟩ = ⟨(l ++ m).toArray⟩ := by
      show (⟨l.toArray ++ m.toArray⟩ : Str) = _
      rw [List.append_toArray]
    rw [e]; exact q
theorem i_sub (q : Q (.int (a - b)) H) : subP (.int a) (.int b) H Q := ⟨a, b, rfl, rfl, q⟩
theorem i_mul_int (h : IntMulOk a b) (q : Q (.int (a * b)) H) : mulP (.int a) (.int b) H Q := .inl ⟨a, b, rfl, rfl, h, q⟩
theorem i_mul_str {n : Nat} (h : l.length * n ≤ 100000 ∧ n ≤ 100000) (q : Q (S (List.replicate n l).flatten) H) : mulP (S l) (.int (n : Int)) H Q := .inr (.inl ⟨l, n, rfl, rfl, h.1, h.2, q⟩)
theorem i_mul_strI {k : Int} (h0 : 0 ≤ k) (h : l.length * k.toNat ≤ 100000 ∧ k.toNat ≤ 100000) (q : Q (S (List.replicate k.toNat l).flatten) H) : mulP (S l) (.int k) H Q := by
  obtain ⟨n, rfl⟩ : ∃ n : Nat, k = (n : Int) := ⟨k.toNat, by omega⟩
  rw [Int.toNat_natCast] at h q
  exact i_mul_str h q
theorem cdiv_small {a b : Int} (h : 0 < b) (h2 : b < 2 ^ 62) : CDivW a b := wide_div (b := 62) h (by omega) (by decide) (by decide)
theorem mul_small {a b : Int} (h : -(2 ^ 64) < a) (h2 : a < 2 ^ 64) : IntMulOk a b := CMul.ok (.inl ⟨h, h2⟩)
theorem mul_smallR {a b : Int} (h : -(2 ^ 64) < b) (h2 : b < 2 ^ 64) : IntMulOk a b := CMul.ok (.inr ⟨h, h2⟩)
theorem i_mod (h : 0 < b) (q : Q (.int (a % b)) H) : modP (.int a) (.int b) H Q := ⟨a, b, rfl, rfl, h, q⟩
theorem i_fdiv (h : CDivW a b) (q : Q (.int (a / b)) H) : fdivP (.int a) (.int b) H Q := ⟨a, b, rfl, rfl, h, q⟩
theorem i_pow (h : 0 ≤ b ∧ (Builtin.Int.intBits a : Int) * b ≤ 2 ^ 27) (q : Q (.int (a ^ b.toNat)) H) : powP (.int a) (.int b) H Q := ⟨a, b, rfl, rfl, h, q⟩
theorem i_eq_int (q : Q (.bl (decide (a = b))) H) : eqP K (.int a) (.int b) H Q := .inl ⟨rfl, by rw [dec_int, Bool.beq_eq_decide_eq]; exact q⟩
theorem i_eq_str (q : Q (.bl (decide (l = m))) H) : eqP K (S l) (S m) H Q := .inl ⟨rfl, by rw [S_dec]; exact q⟩
theorem i_ne_int (q : Q (.bl (!decide (a = b))) H) : neP K (.int a) (.int b) H Q := .inl ⟨rfl, by rw [dec_int, Bool.beq_eq_decide_eq]; exact q⟩
theorem i_ne_str (q : Q (.bl (!decide (l = m))) H) : neP K (S l) (S m) H Q := .inl ⟨rfl, by rw [S_dec]; exact q⟩
theorem i_eq_bl {b c : Bool} (q : Q (.bl (decide (b = c))) H) : eqP K (.bl b) (.bl c) H Q := .inl ⟨rfl, by rw [dec_bl, Bool.beq_eq_decide_eq]; exact q⟩
theorem i_ne_bl {b c : Bool} (q : Q (.bl (!decide (b = c))) H) : neP K (.bl b) (.bl c) H Q := .inl ⟨rfl, by rw [dec_bl, Bool.beq_eq_decide_eq]; exact q⟩
theorem i_lt (q : Q (.bl (decide (a < b))) H) : ltP (.int a) (.int b) H Q := .inl ⟨a, b, rfl, rfl, q⟩
theorem i_lt_str (q : Q (.bl (decide (l < m))) H) : ltP (S l) (S m) H Q := .inr ⟨_, _, rfl, rfl, by simpa using q⟩
theorem i_le (q : Q (.bl (decide (a ≤ b))) H) : leP (.int a) (.int b) H Q := ⟨a, b, rfl, rfl, q⟩
theorem i_gt (q : Q (.bl (decide (b < a))) H) : gtP (.int a) (.int b) H Q := ⟨a, b, rfl, rfl, q⟩
theorem i_ge (q : Q (.bl (decide (b ≤ a))) H) : geP (.int a) (.int b) H Q := ⟨a, b, rfl, rfl, q⟩
theorem i_is_non (q : Q (.bl true) H) : isP .non .non H Q := ⟨rfl, q⟩
theorem i_is_int (q : Q (.bl false) H) : isP (.int a) .non H Q := ⟨rfl, q⟩
theorem i_is_str (q : Q (.bl false) H) : isP (S l) .non H Q := ⟨rfl, q⟩
theorem i_is_ref {p : Addr} (q : Q (.bl false) H) : isP (.ref p) .non H Q := ⟨rfl, q⟩
theorem i_isn_non (q : Q (.bl false) H) : isNotP .non .non H Q := ⟨rfl, q⟩
theorem i_isn_int (q : Q (.bl true) H) : isNotP (.int a) .non H Q := ⟨rfl, q⟩
theorem i_isn_str (q : Q (.bl true) H) : isNotP (S l) .non H Q := ⟨rfl, q⟩
theorem i_isn_ref {p : Addr} (q : Q (.bl true) H) : isNotP (.ref p) .non H Q := ⟨rfl, q⟩
theorem i_in_sg {c : Nat} (q : Q (.bl (decide (c ∈ m))) H) : inP K (S [c]) (S m) H Q := .inl ⟨c, ⟨m.toArray⟩, rfl, rfl, by simpa using q⟩
theorem i_notIn_sg {c : Nat} (q : Q (.bl (!decide (c ∈ m))) H) : notInP K (S [c]) (S m) H Q := .inl ⟨c, ⟨m.toArray⟩, rfl, rfl, by simpa using q⟩
/-! subscripts -/
theorem atI_int {xs : List V} {z : Int} {v : V} (h0 : 0 ≤ z) (h : xs[z.toNat]? = some v) : atI xs z = some v := at_of (j := z.toNat) (by omega) h
theorem i_ix_lst {p : Addr} {xs : List V} {z : Int} {v : V} (hs : SqL K H p xs) (ha : atI xs z = some v) (q : Q v H) : ixP K (.ref p) (.int z) H Q := .inl ⟨p, xs, z, v, rfl, rfl, hs, ha, q⟩
theorem i_ix_tup {p : Addr} {xs : List V} {z : Int} {v : V} (hs : SqT K H p xs) (ha : atI xs z = some v) (q : Q v H) : ixP K (.ref p) (.int z) H Q := .inr (.inl ⟨p, xs, z, v, rfl, rfl, hs, ha, q⟩)
theorem i_ix_str {z : Int} {c : Nat} (hs : l.length ≤ 100000) (h0 : 0 ≤ z) (ha : l[z.toNat]? = some c) (q : Q (S [c]) H) : ixP K (S l) (.int z) H Q := by
  refine .inr (.inr ⟨⟨l.toArray⟩, z, c, rfl, rfl, ?_, ?_, q⟩)
  · rw [str_len]; exact Nat.le_trans hs (by decide)
  · have e : z = ((z.toNat : Nat) : Int) := by omega
    rw [e]
    exact atI_nat (by simpa using ha)
/-! slices -/
def cutN (l : List Nat) (lo hi : Option Int) : List Nat := (l.drop (HT.sIx l.length 0 lo)).take (HT.sIx l.length l.length hi - HT.sIx l.length 0 lo)
theorem i_sl_str {lo hi : Option Int} (hs : l.length ≤ 100000) (q : Q (S (cutN l lo hi)) H) : slP K (S l) lo hi H Q := by
  refine .inr (.inr ⟨⟨l.toArray⟩, rfl, ?_, ?_⟩)
  · rw [str_len]; exact Nat.le_trans hs (by decide)
  · have e : cutS ⟨l.toArray⟩ lo hi = ⟨(cutN l lo hi).toArray⟩ := by
      unfold cutS cutN
      rw [str_len]
    rw [e]; exact q
theorem cutN_to {l : List Nat} {k : Int} (h : 0 ≤ k) : cutN l none (some k) = l.take k.toNat := by
  unfold cutN
  have e : k = ((k.toNat : Nat) : Int) := by omega
  rw [e, HT.sIx_nat, HT.sIx_none, Nat.sub_zero, List.drop_zero, Int.toNat_natCast]
  by_cases hk : k.toNat ≤ l.length
  · rw [Nat.min_eq_left hk]
  · rw [Nat.min_eq_right (by omega), List.take_length, List.take_of_length_le (by omega)]
theorem cutN_from {l : List Nat} {k : Int} (h : 0 ≤ k) : cutN l (some k) none = l.drop k.toNat := by
  unfold cutN
  have e : k = ((k.toNat : Nat) : Int) := by omega
  rw [e, HT.sIx_nat, HT.sIx_none, Int.toNat_natCast]
  by_cases hk : k.toNat ≤ l.length
  · rw [Nat.min_eq_left hk]
    exact List.take_of_length_le (by rw [List.length_drop]; omega)
  · rw [Nat.min_eq_right (by omega), Nat.sub_self, List.take_zero, List.drop_of_length_le (by omega)]
theorem i_sl_to {k : Int} (hs : l.length ≤ 100000) (h0 : 0 ≤ k) (q : Q (S (l.take k.toNat)) H) : slP K (S l) none (some k) H Q := i_sl_str hs (by rw [cutN_to h0]; exact q)
theorem i_sl_from {k : Int} (hs : l.length ≤ 100000) (h0 : 0 ≤ k) (q : Q (S (l.drop k.toNat)) H) : slP K (S l) (some k) none H Q := i_sl_str hs (by rw [cutN_from h0]; exact q)
/-! calls of what is built in -/
def rLenP (K : PySem.W.Frag) : RC := fun xs H Q => ∃ x n, xs = [x] ∧ LenV K x H n ∧ Q (.int n) H
theorem call_lenP {X : Cx} : CallR X (.builtin "len") (rLenP X.K) := call_len
theorem i_len_str (hs : l.length ≤ 100000) (q : Q (.int (l.length : Int)) H) : rLenP K [S l] H Q := ⟨S l, l.length, rfl, ⟨by rw [str_len]; exact Nat.le_trans hs (by decide), (str_len l).symm⟩, q⟩
theorem i_len_lst {p : Addr} {xs : List V} (hs : SqL K H p xs) (q : Q (.int (xs.length : Int)) H) : rLenP K [.ref p] H Q := ⟨.ref p, xs.length, rfl, .inl ⟨xs, hs, rfl⟩, q⟩
theorem i_len_tup {p : Addr} {xs : List V} (hs : SqT K H p xs) (q : Q (.int (xs.length : Int)) H) : rLenP K [.ref p] H Q := ⟨.ref p, xs.length, rfl, .inr ⟨xs, hs, rfl⟩, q⟩
def rIntP : RC := fun xs H Q => (∃ i, xs = [.int i] ∧ Q (.int i) H) ∨ ∃ k, xs = [.bl k] ∧ Q (.int (if k then 1 else 0)) H
theorem call_intP {X : Cx} : CallR X (.type "int") rIntP := call_int1
theorem i_int_int (q : Q (.int a) H) : rIntP [.int a] H Q := .inl ⟨a, rfl, q⟩
def rAbsP : RC := fun xs H Q => ∃ i, xs = [.int i] ∧ Q (.int (if i < 0 then -i else i)) H
theorem call_absP {X : Cx} : CallR X (.builtin "abs") rAbsP := call_abs
theorem i_abs (q : Q (.int (if a < 0 then -a else a)) H) : rAbsP [.int a] H Q := ⟨a, rfl, q⟩
theorem i_sum {p : Addr} {ns : List Int} (hs : SqL K H p (ns.map V.int)) (q : Q (.int ns.sum) H) : rSum K [.ref p] H Q := ⟨p, ns, rfl, hs, q⟩
def rTupP (K : PySem.W.Frag) : RC := fun xs H Q => ∃ p ys, xs = [.ref p] ∧ ((SqL K H p ys ∧ ∀ l, H l = none → Q (.ref l) (upd H l (.tup ys))) ∨ (SqT K H p ys ∧ Q (.ref p) H))
theorem call_tupP {X : Cx} : CallR X (.type "tuple") (rTupP X.K) := call_tuple_of
theorem i_tuple_lst {p : Addr} {ys : List V} (hs : SqL K H p ys) (q : ∀ l, H l = none → Q (.ref l) (upd H l (.tup ys))) : rTupP K [.ref p] H Q := ⟨p, ys, rfl, .inl ⟨hs, q⟩⟩
theorem i_all {p : Addr} {bs : List Bool} (hs : SqL K H p (bs.map V.bl)) (q : Q (.bl (bs.all id)) H) : rAll K [.ref p] H Q := ⟨p, bs, rfl, hs, q⟩
theorem i_isi_non_int (q : Q (.bl false) H) : rIsi K [.non, .ty "int"] H Q := ⟨_, _, _, _, false, rfl, .ty _, .base .non, kit_ty (by decide +kernel), q⟩
theorem i_isi_non_bool (q : Q (.bl false) H) : rIsi K [.non, .ty "bool"] H Q := ⟨_, _, _, _, false, rfl, .ty _, .base .non, kit_ty (by decide +kernel), q⟩
theorem i_isi_non_str (q : Q (.bl false) H) : rIsi K [.non, .ty "str"] H Q := ⟨_, _, _, _, false, rfl, .ty _, .base .non, kit_ty (by decide +kernel), q⟩
theorem i_isi_non_tuple (q : Q (.bl false) H) : rIsi K [.non, .ty "tuple"] H Q := ⟨_, _, _, _, false, rfl, .ty _, .base .non, kit_ty (by decide +kernel), q⟩
theorem i_isi_non_list (q : Q (.bl false) H) : rIsi K [.non, .ty "list"] H Q := ⟨_, _, _, _, false, rfl, .ty _, .base .non, kit_ty (by decide +kernel), q⟩
theorem i_isi_bl_int {b : Bool} (q : Q (.bl true) H) : rIsi K [(.bl b), .ty "int"] H Q := ⟨_, _, _, _, true, rfl, .ty _, .base (.bl b), kit_ty (by decide +kernel), q⟩
theorem i_isi_bl_bool {b : Bool} (q : Q (.bl true) H) : rIsi K [(.bl b), .ty "bool"] H Q := ⟨_, _, _, _, true, rfl, .ty _, .base (.bl b), kit_ty (by decide +kernel), q⟩
theorem i_isi_bl_str {b : Bool} (q : Q (.bl false) H) : rIsi K [(.bl b), .ty "str"] H Q := ⟨_, _, _, _, false, rfl, .ty _, .base (.bl b), kit_ty (by decide +kernel), q⟩
theorem i_isi_bl_tuple {b : Bool} (q : Q (.bl false) H) : rIsi K [(.bl b), .ty "tuple"] H Q := ⟨_, _, _, _, false, rfl, .ty _, .base (.bl b), kit_ty (by decide +kernel), q⟩
theorem i_isi_bl_list {b : Bool} (q : Q (.bl false) H) : rIsi K [(.bl b), .ty "list"] H Q := ⟨_, _, _, _, false, rfl, .ty _, .base (.bl b), kit_ty (by decide +kernel), q⟩
theorem i_isi_int_int {i : Int} (q : Q (.bl true) H) : rIsi K [(.int i), .ty "int"] H Q := ⟨_, _, _, _, true, rfl, .ty _, .base (.int i), kit_ty (by decide +kernel), q⟩
theorem i_isi_int_bool {i : Int} (q : Q (.bl false) H) : rIsi K [(.int i), .ty "bool"] H Q := ⟨_, _, _, _, false, rfl, .ty _, .base (.int i), kit_ty (by decide +kernel), q⟩
theorem i_isi_int_str {i : Int} (q : Q (.bl false) H) : rIsi K [(.int i), .ty "str"] H Q := ⟨_, _, _, _, false, rfl, .ty _, .base (.int i), kit_ty (by decide +kernel), q⟩
theorem i_isi_int_tuple {i : Int} (q : Q (.bl false) H) : rIsi K [(.int i), .ty "tuple"] H Q := ⟨_, _, _, _, false, rfl, .ty _, .base (.int i), kit_ty (by decide +kernel), q⟩
theorem i_isi_int_list {i : Int} (q : Q (.bl false) H) : rIsi K [(.int i), .ty "list"] H Q := ⟨_, _, _, _, false, rfl, .ty _, .base (.int i), kit_ty (by decide +kernel), q⟩
theorem i_isi_str_int {l : List Nat} (q : Q (.bl false) H) : rIsi K [(S l), .ty "int"] H Q := ⟨_, _, _, _, false, rfl, .ty _, .base (.str _), kit_ty (by decide +kernel), q⟩
theorem i_isi_str_bool {l : List Nat} (q : Q (.bl false) H) : rIsi K [(S l), .ty "bool"] H Q := ⟨_, _, _, _, false, rfl, .ty _, .base (.str _), kit_ty (by decide +kernel), q⟩
theorem i_isi_str_str {l : List Nat} (q : Q (.bl true) H) : rIsi K [(S l), .ty "str"] H Q := ⟨_, _, _, _, true, rfl, .ty _, .base (.str _), kit_ty (by decide +kernel), q⟩
theorem i_isi_str_tuple {l : List Nat} (q : Q (.bl false) H) : rIsi K [(S l), .ty "tuple"] H Q := ⟨_, _, _, _, false, rfl, .ty _, .base (.str _), kit_ty (by decide +kernel), q⟩
theorem i_isi_str_list {l : List Nat} (q : Q (.bl false) H) : rIsi K [(S l), .ty "list"] H Q := ⟨_, _, _, _, false, rfl, .ty _, .base (.str _), kit_ty (by decide +kernel), q⟩
theorem i_isi_tup_int {a : Addr} {xs : List V} (h : H a = some (.tup xs)) (q : Q (.bl false) H) : rIsi K [(.ref a), .ty "int"] H Q := ⟨_, _, _, _, false, rfl, .ty _, .base (.tup h), kit_ty (by decide +kernel), q⟩
theorem i_isi_tup_bool {a : Addr} {xs : List V} (h : H a = some (.tup xs)) (q : Q (.bl false) H) : rIsi K [(.ref a), .ty "bool"] H Q := ⟨_, _, _, _, false, rfl, .ty _, .base (.tup h), kit_ty (by decide +kernel), q⟩
theorem i_isi_tup_str {a : Addr} {xs : List V} (h : H a = some (.tup xs)) (q : Q (.bl false) H) : rIsi K [(.ref a), .ty "str"] H Q := ⟨_, _, _, _, false, rfl, .ty _, .base (.tup h), kit_ty (by decide +kernel), q⟩
theorem i_isi_tup_tuple {a : Addr} {xs : List V} (h : H a = some (.tup xs)) (q : Q (.bl true) H) : rIsi K [(.ref a), .ty "tuple"] H Q := ⟨_, _, _, _, true, rfl, .ty _, .base (.tup h), kit_ty (by decide +kernel), q⟩
theorem i_isi_tup_list {a : Addr} {xs : List V} (h : H a = some (.tup xs)) (q : Q (.bl false) H) : rIsi K [(.ref a), .ty "list"] H Q := ⟨_, _, _, _, false, rfl, .ty _, .base (.tup h), kit_ty (by decide +kernel), q⟩
theorem i_isi_lst_int {a : Addr} {xs : List V} (h : H a = some (.lst xs)) (q : Q (.bl false) H) : rIsi K [(.ref a), .ty "int"] H Q := ⟨_, _, _, _, false, rfl, .ty _, .base (.lst h), kit_ty (by decide +kernel), q⟩
theorem i_isi_lst_bool {a : Addr} {xs : List V} (h : H a = some (.lst xs)) (q : Q (.bl false) H) : rIsi K [(.ref a), .ty "bool"] H Q := ⟨_, _, _, _, false, rfl, .ty _, .base (.lst h), kit_ty (by decide +kernel), q⟩
theorem i_isi_lst_str {a : Addr} {xs : List V} (h : H a = some (.lst xs)) (q : Q (.bl false) H) : rIsi K [(.ref a), .ty "str"] H Q := ⟨_, _, _, _, false, rfl, .ty _, .base (.lst h), kit_ty (by decide +kernel), q⟩
theorem i_isi_lst_tuple {a : Addr} {xs : List V} (h : H a = some (.lst xs)) (q : Q (.bl false) H) : rIsi K [(.ref a), .ty "tuple"] H Q := ⟨_, _, _, _, false, rfl, .ty _, .base (.lst h), kit_ty (by decide +kernel), q⟩
theorem i_isi_lst_list {a : Addr} {xs : List V} (h : H a = some (.lst xs)) (q : Q (.bl true) H) : rIsi K [(.ref a), .ty "list"] H Q := ⟨_, _, _, _, true, rfl, .ty _, .base (.lst h), kit_ty (by decide +kernel), q⟩
/-! text.join -/
def rJoinP (K : PySem.W.Frag) : V → List V → Hp → VK → Prop := fun x xs H Q => ∃ a p, ∃ ys : List Str, x = .str a ∧ xs = [.ref p] ∧ (SqL K H p (ys.map V.str) ∨ SqT K H p (ys.map V.str)) ∧ (ys.map (·.length)).sum + ys.length * a.length ≤ 16777216 ∧ Q (.str (Txt.join a ys)) H
theorem pe_joinP {X : Cx} {to te : TE} {o e : Expr} {apos pos : Pos} (ho : PE X o to) (he : PE X e te) (hs : starEach [e] X.env = [(false, eval e X.env)] := by rfl) (hbase : attributeBase o "join" X.env (eval o X.env) = eval o X.env := by rfl) (hline : (apos.endLine == pos.line) = true := by rfl) :
    PE X (.Call (.Attribute o "join" apos) [e] [] pos) (tM1 (rJoinP X.K) to te) := pe_join ho he hs hbase hline
theorem i_m1c {r : V → List V → Hp → VK → Prop} (q : te σ H fun y H2 => r (S l) [y] H2 Q) : tM1 r (tC (S l)) te σ H Q := ⟨⟨_, rfl⟩, q⟩
end
end Fg
/-! Glue: defs of the text with their promises, calls, own exceptions with one field. -/
namespace Fg
open PySem PySem.Spec PyProof.Rows L2
/-- a def of the text: where it stands, how it is called -/
def DefIn (K : PySem.W.Frag) (mg : Str → Option Value) (x : Str) (st : Stmt) (ps : List Str) : Prop :=
  ∃ (f : Addr) (fd : FuncData), Fun K x x st f fd ∧ mg x = some (.ref f) ∧ Binds K fd ps []
/-- .. and it keeps its promise -/
def OK (P : Program) (w : World) (K : PySem.W.Frag) (mg : Str → Option Value) (base : Heap) (CX : CXT) (k : Nat) (x : Str) (ps : List Str) (sp : Sp) : Prop :=
  ∃ (f : Addr) (fd : FuncData), FnOk P w K mg base CX k f fd ps sp ∧ mg x = some (.ref f) ∧ PySem.W.keepIn K (.ref f) = true ∧ Binds K fd ps []
abbrev P1 := V → Hp → VK → XK → Prop
abbrev P2 := V → V → Hp → VK → XK → Prop
abbrev P3 := V → V → V → Hp → VK → XK → Prop
abbrev P4 := V → V → V → V → Hp → VK → XK → Prop
def sp1 (p : P1) : Sp := fun vs H Q E => ∃ x, vs = [x] ∧ p x H Q E
def sp2 (p : P2) : Sp := fun vs H Q E => ∃ x y, vs = [x, y] ∧ p x y H Q E
def sp3 (p : P3) : Sp := fun vs H Q E => ∃ x y z, vs = [x, y, z] ∧ p x y z H Q E
def sp4 (p : P4) : Sp := fun vs H Q E => ∃ x y z u, vs = [x, y, z, u] ∧ p x y z u H Q E
section
variable {H : Hp} {Q : VK} {E : XK} {x y z u : V} {p1 : P1} {p2 : P2} {p3 : P3} {p4 : P4}
theorem i_sp1 (q : p1 x H Q E) : sp1 p1 ([x] ++ []) H Q E := ⟨x, rfl, q⟩
theorem i_sp2 (q : p2 x y H Q E) : sp2 p2 ([x, y] ++ []) H Q E := ⟨x, y, rfl, q⟩
theorem i_sp3 (q : p3 x y z H Q E) : sp3 p3 ([x, y, z] ++ []) H Q E := ⟨x, y, z, rfl, q⟩
theorem i_sp4 (q : p4 x y z u H Q E) : sp4 p4 ([x, y, z, u] ++ []) H Q E := ⟨x, y, z, u, rfl, q⟩
theorem i_sp1' (q : p1 x H Q E) : sp1 p1 [x] H Q E := ⟨x, rfl, q⟩
theorem i_sp2' (q : p2 x y H Q E) : sp2 p2 [x, y] H Q E := ⟨x, y, rfl, q⟩
theorem i_sp3' (q : p3 x y z H Q E) : sp3 p3 [x, y, z] H Q E := ⟨x, y, z, rfl, q⟩
theorem i_sp4' (q : p4 x y z u H Q E) : sp4 p4 [x, y, z, u] H Q E := ⟨x, y, z, u, rfl, q⟩
end
section
variable {P : Program} {w : World} {K : PySem.W.Frag} {mg : Str → Option Value} {base : Heap} {x : Str} {st : Stmt} {N ps : List Str} {k : Nat} {sp : Sp}
theorem FnOK.mk {f : Addr} {fd : FuncData} (F : Fun K x x st f fd) (S : FnScope N ps (defScope st)) (len : ∀ vs H Q E, sp vs H Q E → vs.length = ps.length)
    (body : ∀ (cdv : Value) (A : Around) (outer : List Env) (s : Shared) (H : Hp) (vs : List V) (Q : VK) (E : XK), Room k (A.deeper (envOfC x (defScope st) s.heap.objs.size f cdv)) → sp vs H Q E →
      ∃ t, PSs (cxOf CX0 P w K mg base N x (defScope st) f cdv A outer s H E).nox (defBody st) t ∧ t { nx := fun _ H' => Q .non H', rt := Q } (start N vs) H) : FnOk P w K mg base CX0 (k + 1) f fd ps sp :=
  F.ok S len fun cdv A outer s H vs Q E hr h => body cdv A outer s H vs Q E hr h
theorem OK.mk (D : DefIn K mg x st ps) (S : FnScope N ps (defScope st)) (len : ∀ vs H Q E, sp vs H Q E → vs.length = ps.length)
    (body : ∀ (f : Addr) (cdv : Value) (A : Around) (outer : List Env) (s : Shared) (H : Hp) (vs : List V) (Q : VK) (E : XK), Room k (A.deeper (envOfC x (defScope st) s.heap.objs.size f cdv)) → sp vs H Q E →
      ∃ t, PSs (cxOf CX0 P w K mg base N x (defScope st) f cdv A outer s H E).nox (defBody st) t ∧ t { nx := fun _ H' => Q .non H', rt := Q } (start N vs) H) : OK P w K mg base CX0 (k + 1) x ps sp := by
  obtain ⟨f, fd, F, hm, hb⟩ := D
  exact ⟨f, fd, F.ok S len fun cdv A outer s H vs Q E hr h => body f cdv A outer s H vs Q E hr h, hm, F.kp, hb⟩
theorem OK.mkX (D : DefIn K mg x st ps) (S : FnScope N ps (defScope st)) (len : ∀ vs H Q E, sp vs H Q E → vs.length = ps.length)
    (body : ∀ (f : Addr) (cdv : Value) (A : Around) (outer : List Env) (s : Shared) (H : Hp) (vs : List V) (Q : VK) (E : XK), Room k (A.deeper (envOfC x (defScope st) s.heap.objs.size f cdv)) → sp vs H Q E →
      ∃ t, PSs (cxOf (L2.CX P w) P w K mg base N x (defScope st) f cdv A outer s H E) (defBody st) t ∧ t { nx := fun _ H' => Q .non H', rt := Q } (start N vs) H) : OK P w K mg base (L2.CX P w) (k + 1) x ps sp := by
  obtain ⟨f, fd, F, hm, hb⟩ := D
  exact ⟨f, fd, F.okX S len fun cdv A outer s H vs Q E hr h => body f cdv A outer s H vs Q E hr h, hm, F.kp, hb⟩
theorem len1 {p : P1} {a : Str} : ∀ vs H Q E, sp1 p vs H Q E → vs.length = [a].length := by
  rintro vs H Q E ⟨_, rfl, _⟩; rfl
theorem len2 {p : P2} {a b : Str} : ∀ vs H Q E, sp2 p vs H Q E → vs.length = [a, b].length := by
  rintro vs H Q E ⟨_, _, rfl, _⟩; rfl
theorem len3 {p : P3} {a b c : Str} : ∀ vs H Q E, sp3 p vs H Q E → vs.length = [a, b, c].length := by
  rintro vs H Q E ⟨_, _, _, rfl, _⟩; rfl
theorem len4 {p : P4} {a b c d : Str} : ∀ vs H Q E, sp4 p vs H Q E → vs.length = [a, b, c, d].length := by
  rintro vs H Q E ⟨_, _, _, _, rfl, _⟩; rfl
theorem OK.weak {CX : CXT} {sp' : Sp} (G : OK P w K mg base CX k x ps sp) (h : ∀ vs H Q E, sp' vs H Q E → sp vs H Q E) : OK P w K mg base CX k x ps sp' := by
  obtain ⟨f, fd, F, r⟩ := G
  exact ⟨f, fd, F.imp h, r⟩
end
/-! ### calls -/
section
variable {X : Cx} {CX : CXT} {k : Nat} {x : Str} {ps : List Str} {sp : Sp} {E : XK} {e : Expr} {es : List Expr} {ta : TA} {p pos : Pos}
theorem pe_f (G : OK X.prog X.w X.K X.mg X.base CX k x ps sp) (hr : Room k X.A) (hx : Passes CX X E) (ha : PA X (e :: es) ta) (hg : Gl X x := by rfl) (hd : (x == ("__debug__" : Str)) = false := by decide)
    (he : starEach (e :: es) X.env = (false, eval e X.env) :: starEach es X.env := by rfl) (hpl : (backTo pos (starEach es X.env)).any (·.1) = false := by rfl) :
    PE X (.Call (.Name x p) (e :: es) [] pos) (tCall sp [] E ta) := by
  obtain ⟨f, fd, F, hm, hk, hb⟩ := G
  exact pe_call F hr hg hm hk hb .nil hx ha hd he hpl
theorem pe_fS {ES : L2.St → XK} (G : OK X.prog X.w X.K X.mg X.base CX k x ps sp) (hr : Room k X.A) (hx : ∀ σ, PassesAt CX X σ (ES σ)) (ha : PA X (e :: es) ta) (hg : Gl X x := by rfl) (hd : (x == ("__debug__" : Str)) = false := by decide)
    (he : starEach (e :: es) X.env = (false, eval e X.env) :: starEach es X.env := by rfl) (hpl : (backTo pos (starEach es X.env)).any (·.1) = false := by rfl) :
    PE X (.Call (.Name x p) (e :: es) [] pos) (tCallS sp ES ta) := by
  obtain ⟨f, fd, F, hm, hk, hb⟩ := G
  exact pe_callS F hr hg hm hk hb hx ha hd he hpl
theorem pe_gS (l : List Nat) (h : ∃ t, X.mg x = some (.str ⟨l.toArray⟩ t)) (hg : Gl X x := by rfl) (hd : (x == ("__debug__" : Str)) = false := by decide) : PE X (.Name x pos) (tC (S l)) := by
  obtain ⟨t, hm⟩ := h
  exact pe_glob hg hm ⟨t, rfl⟩ hd
theorem pe_gI (i : Int) (h : ∃ t, X.mg x = some (.int i t)) (hg : Gl X x := by rfl) (hd : (x == ("__debug__" : Str)) = false := by decide) : PE X (.Name x pos) (tC (.int i)) := by
  obtain ⟨t, hm⟩ := h
  exact pe_glob hg hm ⟨t, rfl⟩ hd
theorem pe_gR (C : Addr) (h : X.mg x = some (.ref C)) (hg : Gl X x := by rfl) (hd : (x == ("__debug__" : Str)) = false := by decide) : PE X (.Name x pos) (tC (.ref C)) := pe_glob hg h rfl hd
end
/-! ### an own exception with one field -/
/-- what its __init__ promises -/
def spIni (C : Addr) (f : Str) : Sp := sp2 fun x v H Q _ => ∃ a, x = .ref a ∧ H a = some (exo a C none) ∧ ∀ dx, H dx = none → dx ≠ a → Q .non (upd (upd H dx (exd dx [(f, v)])) a (exo a C (some dx)))
def OKx (P : Program) (w : World) (K : PySem.W.Frag) (mg : Str → Option Value) (base : Heap) (x f : Str) (C : Addr) : Prop :=
  mg x = some (.ref C) ∧ OexC K C ∧ PySem.W.findIn K (.ref C) f = some none ∧ ∃ (fI : Addr) (fd : FuncData), PySem.W.findIn K (.ref C) "__init__" = some (some (.ref fI)) ∧ PySem.W.typeIn K (.ref fI) = some (.type "function") ∧
    FnOk P w K mg base CX0 1 fI fd ["self", f] (spIni C f) ∧ Binds K fd ["self", f] []
theorem ini_ok {P : Program} {w : World} {K : PySem.W.Frag} {mg : Str → Option Value} {base : Heap} {C fI : Addr} {f q : Str} {st : Stmt} {fd : FuncData} (F : Fun K "__init__" q st fI fd) (S : FnScope ["self", f] ["self", f] (defScope st))
    (ox : OexC K C) (noF : PySem.W.findIn K (.ref C) f = some none)
    (hb : ∀ (cdv : Value) (A : Around) (outer : List Env) (s : Shared) (H : Hp) (E : XK), PSs (cxOf CX0 P w K mg base ["self", f] q (defScope st) fI cdv A outer s H E).nox (defBody st) (tOst K f (tVar 0) (tVar 1))) :
    FnOk P w K mg base CX0 1 fI fd ["self", f] (spIni C f) := by
  refine F.ok S (fun vs H Q E h => len2 vs H Q E h) fun cdv A outer s H vs Q E hr h => ⟨_, hb cdv A outer s H E, ?_⟩
  obtain ⟨x, v, rfl, a, rfl, ha, q⟩ := h
  exact ⟨v, rfl, .ref a, rfl, a, C, rfl, ox, noF, .inl ⟨ha, fun dx n ne => q dx n ne⟩⟩
/-- C(e): an error whose dict, new, holds the field -/
def tMkE (C : Addr) (f : Str) (ta : TA) : L2.St → Hp → XK → Prop := fun σ H Q => ta σ H fun vs H1 => ∃ v, vs = [v] ∧ ∀ d, H1 d = none → Q (.ref C) (some d) (upd H1 d (.xd [(f, v)]))
theorem pa_mono {X : Cx} {es : List Expr} {ta : TA} (ha : PA X es ta) : PA X es fun σ H R => ∃ Q1 : List V → Hp → Prop, ta σ H Q1 ∧ ∀ vs H1, Q1 vs H1 → R vs H1 := by
  refine ⟨fun pos pins s σ H Q I h => ?_⟩
  obtain ⟨Q1, h, hi⟩ := h
  exact thn (ha.run pos pins s σ H Q1 I h) fun us s1 ⟨vs, H1, J, r, q⟩ => ⟨vs, H1, J, r, hi vs H1 q⟩
theorem pmk_E {X : Cx} {x f : Str} {C : Addr} {e : Expr} {ta : TA} {p pos : Pos} {k : Nat} (G : OKx X.prog X.w X.K X.mg X.base x f C) (hr : Room (k + 2) X.A) (ha : PA X [e] ta) (hg : Gl X x := by rfl) (hdb : (x == ("__debug__" : Str)) = false := by decide)
    (he : starEach [e] X.env = (false, eval e X.env) :: starEach [] X.env := by rfl) (hpl : (backTo pos (starEach [] X.env)).any (·.1) = false := by rfl) :
    PMk X (.Call (.Name x p) [e] [] pos) (tMkE C f ta) := by
  obtain ⟨hm, ox, noF, fI, fd, iC, tI, F, hb⟩ := G
  intro pins s σ H Q I h
  refine pmk_oex (k := 1) (dvs := []) ox iC tI F (hr.mono (by omega)) hb .nil pass0 hg hm (pa_mono ha) hdb he hpl pins s σ H Q I ⟨_, h, fun vs H1 hq => ?_⟩
  obtain ⟨v, rfl, q⟩ := hq
  refine ⟨by show 1 ≤ 1000; omega, fun a na => ⟨.ref a, v, rfl, a, rfl, upd_same, fun dx nd ne => ⟨rfl, dx, [(f, v)], upd_same, ?_, ?_, ?_⟩⟩⟩
  · rw [upd_ne ne, upd_same]
  · rw [upd_ne ne] at nd; exact nd
  · have n2 : H1 dx = none := by rw [upd_ne ne] at nd; exact nd
    have e1 : upd (del (upd (upd (upd H1 a (exo a C none)) dx (exd dx [(f, v)])) a (exo a C (some dx))) a) dx (.xd [(f, v)]) = upd H1 dx (.xd [(f, v)]) := by
      funext b
      by_cases hb : b = dx
      · rw [hb, upd_same, upd_same]
      · rw [upd_ne hb, upd_ne hb]
        by_cases ha : b = a
        · rw [ha, del_same, na]
        · rw [del_ne ha, upd_ne ha, upd_ne hb, upd_ne ha]
    rw [e1]
    exact q dx n2
def tRaiseP (t : L2.St → Hp → XK → Prop) (W : WX) : TS := fun _ σ H => t σ H fun cls d H' => W cls d σ H'
theorem ps_raiseP {X : Cx} {W : WX} {e : Expr} {t : L2.St → Hp → XK → Prop} {pos : Pos} (hc : X.calm = true) (tk : Takes X W) (he : PMk X e t) : PS X (.Raise (some e) none pos) (tRaiseP t W) := ps_raise hc tk he
/-! ### isinstance(e, C) of a caught error, e.f -/
/-- the class of a caught error, for isinstance -/
structure ExcD (K : PySem.W.Frag) (D : Addr) : Prop where
  cl : (PySem.W.clsIn K D).isSome = true
  hg : PySem.W.findIn K (.ref D) "__getattribute__" = some (some (.builtin "BaseException.__getattribute__"))
  hk : PySem.W.findIn K (.ref D) "__getattr__" = some none
  hs : PySem.W.subIn K (.ref D) (.type "BaseException") = some true
  hd : PySem.W.hasDictIn K D = true
  ha : PySem.W.findIn K (.ref D) "__class__" = some (some (.builtin "object.__class__"))
  hn : PySem.W.specialIn K (.builtin "object.__class__") "__get__" = some (some (.builtin "getset_descriptor.__get__"))
  ht : PySem.W.takesIn K (.builtin "object.__class__") = some true
  hm : PySem.W.mroIn K D (.type "object") = some true
theorem ExcD.xf {K : PySem.W.Frag} {D : Addr} (T : ExcD K D) : XfC K D := ⟨T.hg, T.hk, T.hs, T.hd⟩
def rIsX (K : PySem.W.Frag) (a : Addr) (cls : Value) (d : Option Addr) : RC := fun xs H Q => ∃ (D dd : Addr) (fs : List (Str × V)) (c : V) (cv : Value) (b : Bool),
  xs = [.ref a, c] ∧ cls = .ref D ∧ d = some dd ∧ H dd = some (.xd fs) ∧ ExcD K D ∧ ClsV c cv ∧ PySem.W.kitOne K (.ref D) cv = some b ∧ Q (.bl b) H
theorem call_isX {X : Cx} {a : Addr} {oe : Obj} {cls : Value} {d : Option Addr} {pn : List (Addr × Obj)} (hz : Zc cls d oe) (hf : ∃ vs, oe.data = .fields vs) : CallR (X.suite a ((a, oe) :: pn)) (.builtin "isinstance") (rIsX X.K a cls d) := by
  intro pins s σ H xs us Q I r h
  obtain ⟨D, dd, fs, c, cv, b, rfl, rfl, rfl, hdd, T, kc, e, q⟩ := h
  obtain ⟨u1, u2, rfl, r1, r2⟩ := vals2 r
  obtain rfl : u1 = Value.ref a := r1
  obtain rfl := kc.eq r2
  obtain ⟨hget, _⟩ := I.pin (a, oe) (List.mem_append_left _ List.mem_cons_self)
  obtain ⟨vs, hv⟩ := hf
  have hx : ObjOk X.prog X.w H s.heap dd (.xd fs) := I.hok dd _ hdd
  obtain ⟨mA, ⟨o, es, ep, ho, _⟩, _⟩ := hx
  have J : PySem.W.InstAt s.heap a oe D (some o) := ⟨hget, hz.1, by unfold PySem.W.notCls; rw [hv] <;> rfl, by rw [hz.2]; exact ho⟩
  exact PySem.W.kia_one (PySem.W.kitx_exc T.cl T.hg T.hk T.hs T.ha T.hn T.ht T.hm) I.kIn J e (fun z => nomatch z) fun tk => ⟨.bl b, H, I.tok tk, rfl, q⟩
section
variable {σ : L2.St} {H : Hp} {D : Ends} {t : L2.St → Hp → XK → Prop} {W : WX} {Q : XK} {C : Addr} {f : Str} {ta : TA} {v : V} {P : V → Prop}
theorem i_raise (q : t σ H fun cls d H' => W cls d σ H') : tRaiseP t W D σ H := q
theorem i_mkE (q : ta σ H fun vs H1 => ∃ v, vs = [v] ∧ ∀ d, H1 d = none → Q (.ref C) (some d) (upd H1 d (.xd [(f, v)]))) : tMkE C f ta σ H Q := q
theorem i_ex1 (q : P v) : ∃ u, [v] = [u] ∧ P u := ⟨v, rfl, q⟩
end
/-- the wish for an error of the class at C whose dict, new, holds f = v -/
def Rz (E : XK) (H : Hp) (C : Addr) (f : Str) (v : V) : Prop := ∀ d H', H d = none → Same H H' → H' d = some (.xd [(f, v)]) → E (.ref C) (some d) H'
theorem Rz.mono {E : XK} {H H1 : Hp} {C : Addr} {f : Str} {v : V} (h : Rz E H C f v) (s : Same H H1) : Rz E H1 C f v := fun d H' n s' e => h d H' (s.free n) (s.trans s') e
theorem Rz.at {E : XK} {H : Hp} {C : Addr} {f : Str} {v : V} (h : Rz E H C f v) {d : Addr} (n : H d = none) : E (.ref C) (some d) (upd H d (.xd [(f, v)])) :=
  h d _ n (fun b o e => by rw [upd_ne (ne_of_none e n)]; exact e) upd_same
/-! ### min of some texts -/
def rMinS (K : PySem.W.Frag) : RC := fun vs H Q => ∃ (a : Addr) (xs : List (List Nat)), vs = [V.ref a] ∧ SqL K H a (xs.map S) ∧ xs ≠ [] ∧ ∀ m, m ∈ xs → (∀ y ∈ xs, ¬ y < m) → Q (S m) H
theorem argBest_min (val : Nat → List Nat) : ∀ k, argBest (fun i j => decide (val i < val j)) k ≤ k ∧ ∀ j, j ≤ k → ¬ val j < val (argBest (fun i j => decide (val i < val j)) k)
  | 0 => ⟨Nat.le_refl _, fun j hj => by
    have : j = 0 := by omega
    subst this
    exact List.lt_irrefl _⟩
  | k + 1 => by
    obtain ⟨h1, h2⟩ := argBest_min val k
    unfold argBest
    by_cases h : val (k + 1) < val (argBest (fun i j => decide (val i < val j)) k)
    · rw [if_pos (decide_eq_true h)]
      refine ⟨Nat.le_refl _, fun j hj => ?_⟩
      by_cases e : j = k + 1
      · subst e; exact List.lt_irrefl _
      · exact fun z => h2 j (by omega) (List.lt_trans z h)
    · rw [if_neg (by simpa using h)]
      refine ⟨by omega, fun j hj => ?_⟩
      by_cases e : j = k + 1
      · subst e; exact h
      · exact h2 j (by omega)
theorem cmp_strs {prog : Program} {w : World} {A : Around} {P : Nat → Value → Prop} (val : Nat → List Nat) (hval : ∀ i v, P i v → ∃ t, v = .str ⟨(val i).toArray⟩ t) : CmpOf prog w A .Lt P (fun i j => decide (val i < val j)) := fun i j vi vj s Q E hi hj h => by
  obtain ⟨t, rfl⟩ := hval i vi hi
  obtain ⟨u, rfl⟩ := hval j vj hj
  refine richCompare_gives (op := .Lt) (typeIs_str s _ t) (typeIs_str s _ u) F.slot_str_lt F.entry_str_lt (F.args_str_lt_2 _ _) (gives_str_lt _ _ t u) (fun x => nomatch x) ?_
  show Q (Value.bool (decide ((val i).toArray.toList < (val j).toArray.toList))) s
  simpa using h
theorem cr_minS {X : Cx} (hc : X.calm = true) : CallR X (.builtin "min") (rMinS X.K) := by
  intro pins s σ H vs us Q I r h
  obtain ⟨a, xs, rfl, hs, hne, q⟩ := h
  obtain ⟨its, rv, hl, _⟩ := I.list hs
  rw [Vals.ref1 r]
  have hlen : xs.length = its.length := by have := rv.length; rw [List.length_map] at this; exact this
  have hpos : 0 < its.length := by rw [← hlen]; exact List.length_pos_iff.mpr hne
  have hL := hl.isList
  have ha : a < s.heap.objs.size := by obtain ⟨_, e, _⟩ := id hL; exact Heap.lt_size e
  have hval : ∀ (i : Nat) (v : Value), its.toArray[i]? = some v → ∃ t, v = Value.str ⟨(xs.getD i []).toArray⟩ t := fun i v hv => by
    have hv' : its[i]? = some v := by simpa using hv
    have hi : i < xs.length := by rw [hlen]; exact (List.getElem?_eq_some_iff.mp hv').1
    obtain ⟨u, hu, ru⟩ := rv.get (i := i) (x := S (xs.getD i [])) (by rw [List.getElem?_map, List.getElem?_eq_getElem hi, List.getD_eq_getElem?_getD, List.getElem?_eq_getElem hi]; rfl)
    rw [hv'] at hu
    cases hu
    exact ru
  refine call_min_walk (wpAny_pyIter_list hL ?_)
  refine ⟨_, _, _, _, _, _, _, rfl, Walks.list (A := X.A.in1) (I.ok.hd hc) s.heap.objs.size a (Nat.ne_of_lt ha) its.toArray,
    ⟨⟨_, Heap.get?_push_size _ rfl, rfl, rfl⟩, hL.push _⟩, fun b hb => ?_, by simpa using hpos, cmp_strs (fun i => xs.getD i []) hval, fun v h' tk hP hk => ?_⟩
  · show b < (s.heap.push _).objs.size
    rw [Heap.size_push]
    rcases List.mem_cons.mp hb with e | hb
    · rw [e]; exact Nat.lt_succ_self _
    · rw [List.mem_singleton.mp hb]; exact Nat.lt_succ_of_lt ha
  · obtain ⟨t, rfl⟩ := hval _ v hP
    obtain ⟨b1, b2⟩ := argBest_min (fun i => xs.getD i []) (its.toArray.size - 1)
    have sz : its.toArray.size = xs.length := by simp [hlen]
    have hb : argBest (fun i j => decide (xs.getD i [] < xs.getD j [])) (its.toArray.size - 1) < xs.length := by omega
    refine ⟨S (xs.getD _ []), H, I.kept (t' := tk) fun b u e => hk b u (fun hm => ?_) (Heap.get?_push_of_some _ e), ⟨t, rfl⟩, q _ ?_ fun y hy => ?_⟩
    · have e1 : b = s.heap.objs.size := List.mem_singleton.mp hm
      have e2 := Heap.lt_size e
      rw [e1] at e2
      exact absurd e2 (Nat.lt_irrefl _)
    · rw [List.getD_eq_getElem?_getD, List.getElem?_eq_getElem hb]
      exact List.getElem_mem hb
    · obtain ⟨i, hi, e⟩ := List.mem_iff_getElem.mp hy
      have e2 : xs.getD i [] = y := by rw [List.getD_eq_getElem?_getD, List.getElem?_eq_getElem hi, ← e]; rfl
      rw [← e2]
      exact b2 i (by omega)
theorem i_minS {K : PySem.W.Frag} {H : Hp} {Q : VK} {a : Addr} {xs : List (List Nat)} (hs : SqL K H a (xs.map S)) (hne : xs ≠ []) (q : ∀ m, m ∈ xs → (∀ y ∈ xs, ¬ y < m) → Q (S m) H) : rMinS K [.ref a] H Q := ⟨a, xs, rfl, hs, hne, q⟩
/-! ### the rules, the written part named -/
section
variable {X : Cx} (K : PySem.W.Frag) {e o : Expr} {es : List Expr} {te to : TE} {ta : TA} {tg : Expr} {p pos apos cpos tpos : Pos} {elts : List Expr} {kk : Nat}
theorem opAdd (h : X.K = K := by rfl) : OpR X (binaryOp .Add) (addP K) := h ▸ op_addP
theorem opEq (hu : X.A.units + 64 < cLine) (h : X.K = K := by rfl) : OpR X (compareOp .Eq) (eqP K) := h ▸ op_eqP hu
theorem opNe (hu : X.A.units + 64 < cLine) (h : X.K = K := by rfl) : OpR X (compareOp .NotEq) (neP K) := h ▸ op_neP hu
theorem opIn (h : X.K = K := by rfl) : OpR X (compareOp .In) (inP K) := h ▸ op_inP
theorem opNotIn (h : X.K = K := by rfl) : OpR X (compareOp .NotIn) (notInP K) := h ▸ op_notInP
theorem ixK (h : X.K = K := by rfl) : IxR X (ixP K) := h ▸ ix_P
theorem slK (h : X.K = K := by rfl) : SlR X (slP K) := h ▸ sl_P
theorem piAny (he : PE X e te) (h : X.K = K := by rfl) : PI X tg e (iAny K te) := h ▸ pi_any he
theorem piEnum (hg : Gl X "enumerate") (hm : X.mg "enumerate" = none) (ha : PA X [e] ta) (h : X.K = K := by rfl) (hs : starEach [e] X.env = [(false, eval e X.env)] := by rfl) :
    PI X (.Tuple elts kk tpos) (.Call (.Name "enumerate" p) [e] [] pos) (iEnumP K ta) := h ▸ pi_enumP hg hm ha hs
theorem cLen (h : X.K = K := by rfl) : CallR X (.builtin "len") (rLenP K) := h ▸ call_lenP
theorem cSum (hc : X.calm = true) (h : X.K = K := by rfl) : CallR X (.builtin "sum") (rSum K) := h ▸ cr_sum hc
theorem cAll (hc : X.calm = true) (h : X.K = K := by rfl) : CallR X (.builtin "all") (rAll K) := h ▸ cr_all hc
theorem cTup (h : X.K = K := by rfl) : CallR X (.type "tuple") (rTupP K) := h ▸ call_tupP
theorem cIsi (h : X.K = K := by rfl) : CallR X (.builtin "isinstance") (rIsi K) := h ▸ call_isi
theorem cMinS (hc : X.calm = true) (h : X.K = K := by rfl) : CallR X (.builtin "min") (rMinS K) := h ▸ cr_minS hc
theorem cSortedS (h : X.K = K := by rfl) : CallR X (.builtin "sorted") (rSortedS K) := h ▸ cr_sortedS
theorem peJoin (ho : PE X o to) (he : PE X e te) (h : X.K = K := by rfl) (hs : starEach [e] X.env = [(false, eval e X.env)] := by rfl) (hbase : attributeBase o "join" X.env (eval o X.env) = eval o X.env := by rfl) (hline : (apos.endLine == pos.line) = true := by rfl) :
    PE X (.Call (.Attribute o "join" apos) [e] [] pos) (tM1 (rJoinP K) to te) := h ▸ pe_joinP ho he hs hbase hline
theorem pgTup {t : TGs} {n : Nat} (hc : X.calm = true) (ht : PGs X es t) (h : X.K = K := by rfl) (hn : (assignEach es X.env).length = n := by rfl) (hst : (assignEach es X.env).findIdx? (·.1) = none := by rfl) :
    PG X (.Tuple es kk pos) (gTup K n t) := h ▸ pg_tup hc ht hn hst
/-- xs.append(e) -/
def tApp (K : PySem.W.Frag) (to : TE) (t : TA) : TE := tBM K "list" rAppend to t
theorem peApp (ho : PE X o to) (ha : PA X (e :: es) ta) (h : X.K = K := by rfl) (hbase : attributeBase o "append" X.env (eval o X.env) = eval o X.env := by rfl)
    (hfew : ((backTo cpos (starEach (e :: es) X.env)).all (fun x => !x.1) && (backToKw cpos (keywordEach [] X.env)).all (fun x => x.1.isSome)
      && decide ((e :: es).length + ([] : List Keyword).length + (if ([] : List Keyword).isEmpty then 0 else 1) < 30)) = true := by rfl)
    (hline : (apos.endLine == cpos.line) = true := by rfl) (hs : starEach (e :: es) X.env = (false, eval e X.env) :: starEach es X.env := by rfl) (hplain : (backTo cpos (starEach es X.env)).any (·.1) = false := by rfl) :
    PE X (.Call (.Attribute o "append" apos) (e :: es) [] cpos) (tApp K to ta) := h ▸ pe_bm PySem.F.plainAttrs_list PySem.F.slot_list_append PySem.F.type_list_append mt_append ho ha hbase hfew hline hs hplain
end
section
variable {K : PySem.W.Frag} {σ : L2.St} {H : Hp} {Q : VK} {te : TE} {ta : TA} {l : Addr} {xs : List V} {v : V}
theorem i_app (q : te σ H fun x H1 => tyV K "list" x H1 ∧ ta σ H1 fun xs H2 => rAppend x xs H2 Q) : tApp K te ta σ H Q := q
theorem i_appAt (h : H l = some (.lst xs)) {P : Prop} (q : P) : tyV K "list" (.ref l) H ∧ P := ⟨.inl ⟨rfl, _, .inl (.inl h)⟩, q⟩
theorem i_appEnd (h : H l = some (.lst xs)) (hz : xs.length < 100000) (q : Q .non (upd H l (.lst (xs ++ [v])))) : rAppend (.ref l) [v] H Q := ⟨l, xs, v, rfl, rfl, h, Nat.lt_trans hz (by decide), q⟩
end
/-! ### stores into lists; a word between two statements -/
section
variable {σ : L2.St} {H : Hp} {D : Ends} {t u : TS} {to ti : TE} {v : V} {Qs : L2.St → Hp → Prop} {Qh : Hp → Prop} {p : Addr} {xs ys : List V} {z : Int}
theorem i_gsub {ts : TSet} (q : to σ H fun o H1 => ti σ H1 fun i H2 => ts o i v H2 fun H3 => Qs σ H3) : gSub to ti ts v σ H Qs := q
theorem i_setL (j : Nat) (h : H p = some (.lst xs)) (hj : ixN xs.length z = some j) (e : xs.set j v = ys) (q : Qh (upd H p (.lst ys))) : rSetL (.ref p) (.int z) v H Qh := ⟨p, xs, z, j, rfl, rfl, h, hj, by rw [e]; exact q⟩
theorem i_cut (Mid : L2.St → Hp → Prop) (h1 : t { D with nx := Mid } σ H) (h2 : ∀ σ' H', Mid σ' H' → u D σ' H') : Evl.tCut t u D σ H := ⟨Mid, h1, h2⟩
end
/-! ### "".join -/
theorem joinL_nil : ∀ ls : List (List Nat), TL.joinL [] ls = ls.flatten
  | [] => rfl
  | [p] => by simp [TL.joinL]
  | p :: q :: r => by
    show p ++ ([] ++ TL.joinL [] (q :: r)) = _
    rw [joinL_nil (q :: r)]
    rfl
theorem join_nil (ls : List (List Nat)) : Txt.join ⟨([] : List Nat).toArray⟩ (ls.map fun l => (⟨l.toArray⟩ : Str)) = ⟨ls.flatten.toArray⟩ := by
  refine TL.ext_tl ?_
  rw [TL.join_eq, TL.tl_join, List.map_map]
  show TL.joinL ([] : List Nat).toArray.toList (ls.map fun l => l.toArray.toList) = ls.flatten.toArray.toList
  simp [joinL_nil]
theorem i_join0 {K : PySem.W.Frag} {H : Hp} {Q : VK} {p : Addr} {ls : List (List Nat)} (hs : SqL K H p (ls.map S)) (hz : (ls.map List.length).sum ≤ 100000) (q : Q (S ls.flatten) H) : rJoinP K (S []) [.ref p] H Q := by
  refine ⟨⟨([] : List Nat).toArray⟩, p, ls.map fun l => (⟨l.toArray⟩ : Str), rfl, rfl, .inl ?_, ?_, ?_⟩
  · rw [List.map_map]; exact hs
  · rw [List.map_map]
    have e : (ls.map ((·.length) ∘ fun l => (⟨l.toArray⟩ : Str))) = ls.map List.length := List.map_congr_left fun l _ => str_len l
    rw [e]
    show (ls.map List.length).sum + _ * ([] : List Nat).toArray.size ≤ _
    simp
    omega
  · rw [join_nil]; exact q
theorem flat_one (cs : List Nat) : (cs.map fun c => [c]).flatten = cs := by
  induction cs with
  | nil => rfl
  | cons a r ih => rw [List.map_cons, List.flatten_cons, ih]; rfl
theorem len_one (cs : List Nat) : ((cs.map fun c => [c]).map List.length).sum = cs.length := by
  induction cs with
  | nil => rfl
  | cons a r ih => rw [List.map_cons, List.map_cons, List.sum_cons, ih, List.length_cons, List.length_cons, List.length_nil]; omega
/-- .. of signs -/
theorem i_join1 {K : PySem.W.Frag} {H : Hp} {Q : VK} {p : Addr} {cs : List Nat} (hs : SqL K H p (cs.map fun c => S [c])) (hz : cs.length ≤ 100000) (q : Q (S cs) H) : rJoinP K (S []) [.ref p] H Q := by
  refine i_join0 (ls := cs.map fun c => [c]) (by rw [List.map_map]; exact hs) (by rw [len_one]; exact hz) ?_
  rw [flat_one]
  exact q
theorem i_yes {σ : L2.St} {H : Hp} {QB : Bool → Hp → Prop} (q : QB true H) : tYes σ H QB := q
/-! ### sorted(some texts): its first -/
theorem ltCps_dec : ∀ a b : List Nat, Spec.ltCps a b = decide (a < b)
  | [], [] => by rw [decide_eq_false (List.lt_irrefl _)]; rfl
  | [], b :: t => by rw [decide_eq_true (List.nil_lt_cons b t)]; rfl
  | a :: r, [] => by rw [decide_eq_false (List.not_lt_nil _)]; rfl
  | a :: r, b :: t => by
    show (decide (a < b) || (a == b && Spec.ltCps r t)) = _
    rw [ltCps_dec r t, Bool.eq_iff_iff]
    simp [List.cons_lt_cons_iff]
theorem rising_all : ∀ (r : List Str) (p : Str), PyProof.Rows.risingS p r = true → ∀ y ∈ r, ¬ y.cps.toList < p.cps.toList
  | [], p, _, y, hy => by simp at hy
  | x :: r, p, h, y, hy => by
    have h' : (!Spec.ltCps x.cps.toList p.cps.toList && PyProof.Rows.risingS x r) = true := h
    rw [Bool.and_eq_true, ltCps_dec] at h'
    have h1 : ¬ x.cps.toList < p.cps.toList := by simpa using h'.1
    rcases List.mem_cons.mp hy with rfl | hy
    · exact h1
    · have h2 := rising_all r x h'.2 y hy
      rw [List.not_lt] at h1 h2 ⊢
      exact List.le_trans h1 h2
theorem i_sortedS {K : PySem.W.Frag} {H : Hp} {Q : VK} {a : Addr} {ls : List (List Nat)} (hs : SqL K H a (ls.map S)) (h64 : ls.length < 64)
    (q : ∀ (zs : List (List Nat)) (p : Addr), zs.Perm ls → (∀ m, zs[0]? = some m → m ∈ ls ∧ ∀ y ∈ ls, ¬ y < m) → H p = none → Q (.ref p) (upd H p (.lst (zs.map S)))) : rSortedS K [.ref a] H Q := by
  refine ⟨a, ls.map fun l => (⟨l.toArray⟩ : Str), rfl, by rw [List.map_map]; exact hs, by rw [List.length_map]; exact h64, fun ys p pm srt np => ?_⟩
  have e : ys = (ys.map fun z => z.cps.toList).map fun l => (⟨l.toArray⟩ : Str) := by
    rw [List.map_map]
    have : ys.map ((fun l => (⟨l.toArray⟩ : Str)) ∘ fun z => z.cps.toList) = ys.map id := List.map_congr_left fun z _ => rfl
    rw [this, List.map_id]
  have pm2 : (ys.map fun z => z.cps.toList).Perm ls := by
    have := pm.map fun z : Str => z.cps.toList
    rw [List.map_map] at this
    have e2 : ls.map ((fun z : Str => z.cps.toList) ∘ fun l => (⟨l.toArray⟩ : Str)) = ls.map id := List.map_congr_left fun l _ => rfl
    rw [e2, List.map_id] at this
    exact this
  have := q (ys.map fun z => z.cps.toList) p pm2 (fun m hm => ?_) np
  · rw [List.map_map] at this
    have e3 : ys.map (S ∘ fun z => z.cps.toList) = ys.map V.str := List.map_congr_left fun z _ => rfl
    rw [e3] at this
    exact this
  · have hmem : m ∈ ys.map fun z => z.cps.toList := List.mem_of_getElem? hm
    refine ⟨pm2.mem_iff.mp hmem, fun y hy => ?_⟩
    have hy2 := pm2.mem_iff.mpr hy
    obtain ⟨z, hz, rfl⟩ := List.mem_map.mp hy2
    cases ys with
    | nil => simp at hz
    | cons x r =>
      have hm' : x.cps.toList = m := by simpa using hm
      rw [← hm']
      have srt' : PyProof.Rows.risingS x r = true := srt
      rcases List.mem_cons.mp hz with rfl | hz
      · exact List.lt_irrefl _
      · exact rising_all r x srt' z hz
/-! ### isinstance(e, C), e.f in a suite; data compared -/
section
variable {K : PySem.W.Frag} {σ : L2.St} {H : Hp} {Q : VK} {a dd D C : Addr} {fs : List (Str × V)} {c x y v : V} {cv : Value} {b r : Bool} {i : Nat} {f : Str} {d1 d2 : PyData}
theorem i_isX (hdd : H dd = some (.xd fs)) (T : ExcD K D) (kc : ClsV c cv) (e : PySem.W.kitOne K (.ref D) cv = some b) (q : Q (.bl b) H) : rIsX K a (.ref D) (some dd) [.ref a, c] H Q := ⟨D, dd, fs, c, cv, b, rfl, rfl, rfl, hdd, T, kc, e, q⟩
theorem i_xf (h : σ[i]? = some (some (.ref a))) (hdd : H dd = some (.xd [(f, v)])) (q : Q v H) : tXf a (.ref C) (some dd) C f (tVar i) σ H Q := ⟨.ref a, h, rfl, rfl, dd, _, v, rfl, hdd, by simp [List.lookup], q⟩
theorem i_eq_data (h1 : Dp K H x d1) (h2 : Dp K H y d2) (s1 : SeqAt.shaped d1 = true) (s2 : SeqAt.shaped d2 = true) (e : PyData.eqv d1 d2 = r) (q : Q (.bl r) H) : eqP K x y H Q := .inr ⟨d1, d2, h1, h2, s1, s2, by rw [e]; exact q⟩
theorem i_ne_data (h1 : Dp K H x d1) (h2 : Dp K H y d2) (s1 : SeqAt.shaped d1 = true) (s2 : SeqAt.shaped d2 = true) (e : PyData.eqv d1 d2 = r) (q : Q (.bl (!r)) H) : neP K x y H Q := .inr ⟨d1, d2, h1, h2, s1, s2, by rw [e]; exact q⟩
theorem dp_bls (bs : List Bool) : DpAll K H (bs.map V.bl) (bs.map PyData.bool) := by
  induction bs with
  | nil => exact .nil
  | cons b r ih => exact .cons (.bl b) ih
theorem dp_ints (ns : List Int) : DpAll K H (ns.map V.int) (ns.map PyData.int) := by
  induction ns with
  | nil => exact .nil
  | cons b r ih => exact .cons (.int b) ih
end
theorem cIsX (K : PySem.W.Frag) {X : Cx} {a : Addr} {oe : Obj} {cls : Value} {d : Option Addr} {pn : List (Addr × Obj)} (hz : Zc cls d oe) (hf : ∃ vs, oe.data = .fields vs) (h : X.K = K := by rfl) : CallR (X.suite a ((a, oe) :: pn)) (.builtin "isinstance") (rIsX K a cls d) := h ▸ call_isX hz hf
/-- what a clause asks, at an error of a class that it names -/
theorem i_caught {K : PySem.W.Frag} {C : Addr} {c : Value} {i : Nat} {ts : Addr → Value → Option Addr → TS} {Wout : WX} {D : Ends} {d : Option Addr} {σ : L2.St} {H : Hp} (h : PySem.W.exmOne K (.ref C) c = some true)
    (q : ∀ a, H a = none → ts a (.ref C) d { nx := fun σ' H' => D.nx (σ'.set i none) H', rt := D.rt, bk := fun σ' H' => D.bk (σ'.set i none) H', ct := fun σ' H' => D.ct (σ'.set i none) H' } (σ.set i (some (.ref a))) H) : wAs K c i ts Wout D (.ref C) d σ H :=
  ⟨true, h, fun _ => q, fun z => nomatch z⟩
/-! ### isinstance and clauses, from what stands of the classes -/
theorem kit_ref {K : PySem.W.Frag} {C D : Addr} {b : Bool} (hi : PySem.W.isClsIn K D = true) (ht : PySem.W.typeIn K (.ref D) = some (.type "type")) (hs : PySem.W.subIn K (.ref D) (.ref D) = some true) (e : PySem.W.subIn K (.ref C) (.ref D) = some b) : PySem.W.kitOne K (.ref C) (.ref D) = some b := by
  unfold PySem.W.kitOne
  by_cases h : C = D
  · subst h
    rw [hs] at e
    rw [if_pos (beq_self_eq_true _)]
    exact e
  · rw [if_neg (fun z => h (by simpa using z))]
    show (if ((PySem.W.clsIn K D).isSome && PySem.W.typeIn K (.ref D) == some (.type "type")) = true then PySem.W.subIn K (.ref C) (.ref D) else none) = _
    rw [show (PySem.W.clsIn K D).isSome = true from hi, ht, if_pos (by simp)]
    exact e
theorem kit_base {K : PySem.W.Frag} {C : Addr} {T : String} {b : Bool} (hm : PySem.W.kitMeta T = true) (e : PySem.W.subIn K (.ref C) (.type T) = some b) : PySem.W.kitOne K (.ref C) (.type T) = some b := by
  unfold PySem.W.kitOne
  rw [if_neg (by simp)]
  show (if PySem.W.kitMeta T = true then PySem.W.subIn K (.ref C) (.type T) else none) = _
  rw [if_pos hm]
  exact e
theorem exm_ref {K : PySem.W.Frag} {C D : Addr} {b : Bool} (hi : PySem.W.isClsIn K D = true) (ht : PySem.W.typeIn K (.ref D) = some (.type "type")) (hb : PySem.W.subIn K (.ref D) (.type "BaseException") = some true) (e : PySem.W.subIn K (.ref C) (.ref D) = some b) : PySem.W.exmOne K (.ref C) (.ref D) = some b := by
  unfold PySem.W.exmOne
  rw [hb, if_pos (by simp)]
  show (if ((PySem.W.clsIn K D).isSome && PySem.W.typeIn K (.ref D) == some (.type "type")) = true then PySem.W.subIn K (.ref C) (.ref D) else none) = _
  rw [show (PySem.W.clsIn K D).isSome = true from hi, ht, if_pos (by simp)]
  exact e
/-! ### what is never come to; a comprehension in a comprehension -/
theorem pe_never {X : Cx} {e : Expr} : PE X e (fun _ _ _ => False) := ⟨fun _ _ _ _ _ _ h => h.elim⟩
theorem passN {X : Cx} : Passes (L2.CX X.prog X.w) X E0 := fun _ _ _ _ _ _ _ ⟨_, _, _, _, _, _, _, _, _, _, _, _, h⟩ => h.elim
theorem pss_never {X : Cx} {st : List Stmt} : PSs X st (fun _ _ _ => False) := ⟨fun _ _ _ _ _ _ h => h.elim⟩
theorem blkOk_in {N : List Str} {sc scope scope2 : Scope} {own : List (Str × Nat)} {X : Cx} {s : Shared} {H : Hp} {cl : List (Str × Addr)} {C : Addr} {fp : List Addr} (hN : X.N = N) (he : X.env.scope = sc) (h : blkC N (relS scope sc) scope2 own = true) :
    BlkOk (X.blk s H scope (compEnvC scope cl C X.env) fp).N (X.blk s H scope (compEnvC scope cl C X.env) fp).env.scope scope2 own := by
  subst hN he
  exact blkOk_by h
theorem i_is_bl {H : Hp} {Q : VK} {b : Bool} (q : Q (.bl false) H) : isP (.bl b) .non H Q := ⟨rfl, q⟩
theorem i_isn_bl {H : Hp} {Q : VK} {b : Bool} (q : Q (.bl true) H) : isNotP (.bl b) .non H Q := ⟨rfl, q⟩
theorem i_int_bl {H : Hp} {Q : VK} {b : Bool} (q : Q (.int (if b then 1 else 0)) H) : rIntP [.bl b] H Q := .inr ⟨b, rfl, q⟩
section
variable {K : PySem.W.Frag} {σ : L2.St} {H : Hp} {Q : VK} {D : Ends} {te : TE} {ta : TA} {i j : Nat} {u v w x : V} {a : Addr} {Qs : L2.St → Hp → Prop}
theorem i_par (q : ta σ H fun vs H1 => ∃ v w, vs = [v, w] ∧ D.nx ((σ.set i (some v)).set j (some w)) H1) : tPar i j ta D σ H := q
theorem i_par2 (q : D.nx ((σ.set i (some v)).set j (some w)) H) : ∃ v' w', [v, w] = [v', w'] ∧ D.nx ((σ.set i (some v')).set j (some w')) H := ⟨v, w, rfl, q⟩
theorem i_aug {ti : TIp} (h : σ[i]? = some (some x)) (q : te σ H fun y H1 => ti x y H1 fun z H2 => D.nx (σ.set i (some z)) H2) : tAug i te ti D σ H := ⟨x, h, q⟩
theorem i_ipI {f : Int → Int → Int} {a b : Int} (q : Q (.int (f a b)) H) : ipI f (.int a) (.int b) H Q := ⟨a, b, rfl, rfl, q⟩
theorem i_gtup2 (h : SqT K H a [u, v]) (q : Qs ((σ.set i (some u)).set j (some v)) H) : gTup K 2 (gCons (gName i) (gCons (gName j) gNil)) (.ref a) σ H Qs := ⟨a, _, rfl, h, rfl, u, _, rfl, v, _, rfl, rfl, q⟩
theorem i_while {c : TT} {tb : TS} (W : Nat → L2.St → Hp → Prop) (m : Nat) (h0 : W m σ H)
    (h : ∀ m σ H, W m σ H → c σ H fun b H1 => if b = true then ∃ N : L2.St → Hp → Prop, (∀ σ' H', N σ' H' → ∃ m', m' < m ∧ W m' σ' H') ∧ tb { D with nx := N, ct := N, bk := D.nx } σ H1 else D.nx σ H1) : tWhile c tb D σ H := ⟨W, ⟨m, h0⟩, h⟩
theorem i_turn {tb : TS} {W : Nat → L2.St → Hp → Prop} {m : Nat} (q : tb { D with nx := fun σ' H' => ∃ m', m' < m ∧ W m' σ' H', ct := fun σ' H' => ∃ m', m' < m ∧ W m' σ' H', bk := D.nx } σ H) :
    ∃ N : L2.St → Hp → Prop, (∀ σ' H', N σ' H' → ∃ m', m' < m ∧ W m' σ' H') ∧ tb { D with nx := N, ct := N, bk := D.nx } σ H := ⟨_, fun _ _ h => h, q⟩
theorem i_lstRg1 (q : te σ H fun x H1 => ∃ n, x = .int n ∧ RgOk 0 n ∧ ∀ q, H1 q = none → Q (.ref q) (upd H1 q (.lst (rgV 0 n)))) : tLstRg (tRg1 te) σ H Q := q
theorem rgV_nat (n : Nat) : rgV 0 (n : Int) = (List.range n).map fun (i : Nat) => V.int (i : Int) := by
  unfold rgV
  rw [Int.sub_zero, Int.toNat_natCast]
  exact List.map_congr_left fun i _ => by rw [Int.zero_add]
theorem i_rg {n : Nat} {P : Addr → Prop} (hn : n ≤ 100000) (q : ∀ q, H q = none → P q) : RgOk 0 (n : Int) ∧ ∀ q, H q = none → P q := ⟨⟨by omega, by omega, by omega, by omega, by omega⟩, q⟩
end
end Fg
/-! Loops and comprehensions, by what a turn does. -/
namespace Fg
open PySem PySem.Spec PyProof.Rows L2
theorem same_upd {H : Hp} {p : Addr} {o : HO} (h : H p = none) : Same H (upd H p o) := fun b x e => by
  rw [upd_ne (ne_of_none e h)]
  exact e
theorem Same.upd {H H' : Hp} {p : Addr} {o : HO} (e : Same H H') (h : H p = none) : Same H (upd H' p o) := fun b x eb => by
  rw [upd_ne (ne_of_none eb h)]
  exact e b x eb
theorem Same.tup {K : PySem.W.Frag} {H H' : Hp} {a : Addr} {xs : List V} (e : Same H H') (h : SqT K H a xs) : SqT K H' a xs := by
  rcases h with (h | ⟨o, h⟩) | h
  · exact .inl (.inl (e _ _ h))
  · exact .inl (.inr ⟨o, e _ _ h⟩)
  · exact .inr h
section
variable {K : PySem.W.Frag} {σ : L2.St} {H : Hp} {Q : VK} {D : Ends} {te tl : TE} {tt : TT} {ta : TA} {tb : TS} {j : Nat} {g : TG} {a : Addr} {xs : List V} {z : List Nat} {vs : List Nat}
/-- for j in range(n) -/
theorem f_rng1 (n : Nat) (ha : ∀ R : List V → Hp → Prop, R [.int (n : Int)] H → ta σ H R) (hn : n ≤ 100000000) (Pv : Nat → L2.St → Hp → Prop) (h0 : Pv 0 σ H)
    (hs : ∀ i σ' H', i < n → Pv i σ' H' → g (.int (i : Int)) σ' H' fun σ2 H2 => tb { D with nx := Pv (i + 1), ct := Pv (i + 1), bk := D.nx } σ2 H2) (hd : ∀ σ' H', Pv n σ' H' → D.nx σ' H') : tFor (iRng1 ta) g tb D σ H := by
  refine ha _ ⟨(n : Int), rfl, by omega, by omega, ?_⟩
  rw [Int.toNat_natCast]
  refine for_range Pv h0 (fun i σ' H' hi p => ?_) hd
  rw [Int.zero_add]
  exact hs i σ' H' hi p
/-- for j in range(lo, n) -/
theorem f_rng2 (lo n : Nat) (ha : ∀ R : List V → Hp → Prop, R [.int (lo : Int), .int (n : Int)] H → ta σ H R) (hn : lo ≤ 100000 ∧ n ≤ 100000000) (Pv : Nat → L2.St → Hp → Prop) (h0 : Pv 0 σ H)
    (hs : ∀ i σ' H', lo + i < n → Pv i σ' H' → g (.int ((lo + i : Nat) : Int)) σ' H' fun σ2 H2 => tb { D with nx := Pv (i + 1), ct := Pv (i + 1), bk := D.nx } σ2 H2) (hd : ∀ σ' H', Pv (n - lo) σ' H' → D.nx σ' H') : tFor (iRng2 ta) g tb D σ H := by
  refine ha _ ⟨(lo : Int), (n : Int), rfl, ⟨by omega, by omega, by omega, by omega⟩, ?_⟩
  have e : ((n : Int) - (lo : Int)).toNat = n - lo := by omega
  rw [e]
  refine for_range Pv h0 (fun i σ' H' hi p => ?_) hd
  rw [← Int.natCast_add]
  exact hs i σ' H' (by omega) p
theorem f_lst (ha : ∀ R : VK, R (.ref a) H → te σ H R) (hx : SqL K H a xs) (Pv : Nat → L2.St → Hp → Prop) (h0 : Pv 0 σ H) (hl : ∀ i σ' H', i ≤ xs.length → Pv i σ' H' → SqL K H' a xs)
    (hs : ∀ i x σ' H', xs[i]? = some x → Pv i σ' H' → g x σ' H' fun σ2 H2 => tb { D with nx := Pv (i + 1), ct := Pv (i + 1), bk := D.nx } σ2 H2) (hd : ∀ σ' H', Pv xs.length σ' H' → D.nx σ' H') : tFor (iAny K te) g tb D σ H :=
  ha _ (.inl ⟨a, xs, rfl, hx, for_list Pv h0 hl hs hd⟩)
theorem f_tup (ha : ∀ R : VK, R (.ref a) H → te σ H R) (hx : SqT K H a xs) (Pv : Nat → L2.St → Hp → Prop) (h0 : Pv 0 σ H) (hl : ∀ i σ' H', i ≤ xs.length → Pv i σ' H' → SqT K H' a xs)
    (hs : ∀ i x σ' H', xs[i]? = some x → Pv i σ' H' → g x σ' H' fun σ2 H2 => tb { D with nx := Pv (i + 1), ct := Pv (i + 1), bk := D.nx } σ2 H2) (hd : ∀ σ' H', Pv xs.length σ' H' → D.nx σ' H') : tFor (iAny K te) g tb D σ H :=
  ha _ (.inr (.inl ⟨a, xs, rfl, hx, for_tup Pv h0 hl hs hd⟩))
theorem f_str (ha : ∀ R : VK, R (S z) H → te σ H R) (Pv : Nat → L2.St → Hp → Prop) (h0 : Pv 0 σ H)
    (hs : ∀ i c σ' H', z[i]? = some c → Pv i σ' H' → g (S [c]) σ' H' fun σ2 H2 => tb { D with nx := Pv (i + 1), ct := Pv (i + 1), bk := D.nx } σ2 H2) (hd : ∀ σ' H', Pv z.length σ' H' → D.nx σ' H') : tFor (iAny K te) g tb D σ H := by
  have e : (⟨z.toArray⟩ : Str).cps.size = z.length := str_len z
  refine ha _ (.inr (.inr ⟨_, rfl, for_it walk_str Pv h0 (fun _ _ _ _ _ => True.intro) (fun i x σ' H' H2 hi p y => ?_) (by rw [e]; exact hd)⟩))
  obtain ⟨rfl, c, hc, rfl⟩ := y
  exact hs i c σ' _ (by simpa using hc) p
/-- for i, c in enumerate(text) -/
theorem f_enumS {i1 i2 : Nat} (ha : ∀ R : List V → Hp → Prop, R [S z] H → ta σ H R) (Pv : Nat → L2.St → Hp → Prop) (h0 : Pv 0 σ H)
    (hs : ∀ i c σ' H' T, z[i]? = some c → Pv i σ' H' → H' T = none → tb { D with nx := Pv (i + 1), ct := Pv (i + 1), bk := D.nx } ((σ'.set i1 (some (.int (i : Int)))).set i2 (some (S [c]))) (upd H' T (.tup [.int (i : Int), S [c]]))) (hd : ∀ σ' H', Pv z.length σ' H' → D.nx σ' H') :
    tFor (iEnumP K ta) (gTup K 2 (gCons (gName i1) (gCons (gName i2) gNil))) tb D σ H := by
  have e : (⟨z.toArray⟩ : Str).cps.size = z.length := str_len z
  refine ha _ (.inr ⟨⟨z.toArray⟩, rfl, ?_⟩)
  have w : Walk (Ites ⟨z.toArray⟩) z.length (fun _ => True) (fun i Ha v Hb => ∃ T c, v = .ref T ∧ Ha T = none ∧ Hb = upd Ha T (.tup [.int (i : Nat), S [c]]) ∧ z[i]? = some c) := by
    refine ⟨fun i H' hi _ => by show i < (⟨z.toArray⟩ : Str).cps.size; rw [e]; exact hi, fun H' _ => e.symm, fun i H' x H2 hi _ y => ?_⟩
    obtain ⟨T, c, h1, h2, h3, h4⟩ := y
    exact ⟨T, c, h1, h2, h3, by simpa using h4⟩
  refine for_it w Pv h0 (fun _ _ _ _ _ => True.intro) (fun i x σ' H' H2 hi p y => ?_) hd
  obtain ⟨T, c, rfl, nT, rfl, hc⟩ := y
  exact ⟨T, _, rfl, SqT.of upd_same, rfl, _, _, rfl, _, _, rfl, rfl, hs i c σ' H' T hc p nT⟩
/-! comprehensions whose elements leave what stood -/
def Lw (H1 : Hp) (Dl : Addr) (l : Nat → List V) (i : Nat) (H' : Hp) : Prop := H1 Dl = none ∧ Same H1 H' ∧ H' Dl = some (.lst (l i))
/-- the kept ones among the first n -/
def kept (f : Nat → Bool) (v : Nat → V) (n : Nat) : List V := ((List.range n).filter f).map v
theorem kept_yes {f : Nat → Bool} {v : Nat → V} {n : Nat} (h : f n = true) : kept f v (n + 1) = kept f v n ++ [v n] := by
  unfold kept
  rw [List.range_succ, List.filter_append, List.map_append, List.filter_cons_of_pos h] <;> rfl
theorem kept_no {f : Nat → Bool} {v : Nat → V} {n : Nat} (h : f n = false) : kept f v (n + 1) = kept f v n := by
  unfold kept
  rw [List.range_succ, List.filter_append, List.map_append, List.filter_cons_of_neg (by rw [h]; decide)]
  simp
theorem kept_len (f : Nat → Bool) (v : Nat → V) (n : Nat) : (kept f v n).length ≤ n := by
  unfold kept
  rw [List.length_map]
  exact Nat.le_trans (List.length_filter_le _ _) (by rw [List.length_range]; exact Nat.le_refl _)
theorem kept_all (v : Nat → V) (n : Nat) : kept (fun _ => true) v n = (List.range n).map v := by
  unfold kept
  rw [List.filter_eq_self.mpr (fun _ _ => rfl)]
theorem lw_turn {H1 H' : Hp} {Dl : Addr} {f : Nat → Bool} {v : Nat → V} {i : Nat} {σ2 : L2.St} (p : Lw H1 Dl (kept f v) i H') (hi : i < 100000)
    (ht : ∀ H2, Same H1 H2 → ∀ QB : Bool → Hp → Prop, (∀ H3, Same H2 H3 → QB (f i) H3) → tt σ2 H2 QB) (he : ∀ H2, Same H1 H2 → f i = true → ∀ QV : VK, (∀ H3, Same H2 H3 → QV (v i) H3) → te σ2 H2 QV) :
    tt σ2 H' fun b H3 => if b = true then te σ2 H3 fun y H4 => ∃ acc, H4 Dl = some (.lst acc) ∧ acc.length < sizeLine ∧ Lw H1 Dl (kept f v) (i + 1) (upd H4 Dl (.lst (acc ++ [y]))) else Lw H1 Dl (kept f v) (i + 1) H3 := by
  obtain ⟨n1, s1, d1⟩ := p
  refine ht H' s1 _ fun H3 s3 => ?_
  cases hf : f i with
  | true =>
    rw [if_pos rfl]
    refine he H3 (s1.trans s3) hf _ fun H4 s4 => ⟨kept f v i, s4 _ _ (s3 _ _ d1), ?_, n1, ?_, ?_⟩
    · exact Nat.lt_of_le_of_lt (kept_len f v i) (Nat.lt_trans hi (by decide))
    · exact Same.upd ((s1.trans s3).trans s4) n1
    · rw [kept_yes hf]; exact upd_same
  | false =>
    rw [if_neg (by decide)]
    exact ⟨n1, s1.trans s3, by rw [kept_no hf]; exact s3 _ _ d1⟩
/-- [te for j in range(n) if tt] -/
theorem c_rng1 (n : Nat) (ha : ∀ R : List V → Hp → Prop, R [.int (n : Int)] H → ta σ H R) (hn : n ≤ 100000) (f : Nat → Bool) (v : Nat → V) (hw : ∀ x, wipe ((wipe σ vs).set j (some x)) vs = wipe σ vs)
    (ht : ∀ i H2, i < n → Same H H2 → ∀ QB : Bool → Hp → Prop, (∀ H3, Same H2 H3 → QB (f i) H3) → tt ((wipe σ vs).set j (some (.int (i : Int)))) H2 QB)
    (he : ∀ i H2, i < n → Same H H2 → f i = true → ∀ QV : VK, (∀ H3, Same H2 H3 → QV (v i) H3) → te ((wipe σ vs).set j (some (.int (i : Int)))) H2 QV)
    (q : ∀ Dl H2, H Dl = none → Same H H2 → H2 Dl = some (.lst (kept f v n)) → Q (.ref Dl) H2) : tLc (iRng1 ta) (gName j) tt te vs σ H Q := by
  refine ha _ ⟨(n : Int), rfl, by omega, by omega, fun Dl nD => ?_⟩
  rw [Int.toNat_natCast]
  refine lc_range (Lw H Dl (kept f v)) ⟨nD, same_upd nD, upd_same⟩ (fun i H' hi p => ?_) (fun H' p => q Dl H' p.1 p.2.1 p.2.2)
  rw [Int.zero_add]
  exact ⟨hw _, lw_turn p (by omega) (fun H2 s2 => ht i H2 hi s2) (fun H2 s2 => he i H2 hi s2)⟩
/-- .. every one -/
theorem c_rng1A (n : Nat) (ha : ∀ R : List V → Hp → Prop, R [.int (n : Int)] H → ta σ H R) (hn : n ≤ 100000) (v : Nat → V) (hw : ∀ x, wipe ((wipe σ vs).set j (some x)) vs = wipe σ vs)
    (he : ∀ i H2, i < n → Same H H2 → ∀ QV : VK, (∀ H3, Same H2 H3 → QV (v i) H3) → te ((wipe σ vs).set j (some (.int (i : Int)))) H2 QV)
    (q : ∀ Dl H2, H Dl = none → Same H H2 → H2 Dl = some (.lst ((List.range n).map v)) → Q (.ref Dl) H2) : tLc (iRng1 ta) (gName j) tYes te vs σ H Q :=
  c_rng1 n ha hn (fun _ => true) v hw (fun i H2 hi s2 QB k => k H2 (L2.Same.refl H2)) (fun i H2 hi s2 _ => he i H2 hi s2) (fun Dl H2 n1 s1 d1 => q Dl H2 n1 s1 (by rw [kept_all] at d1; exact d1))
/-- [te for j in a list if tt] -/
theorem c_lst (ha : ∀ R : VK, R (.ref a) H → tl σ H R) (hx : SqL K H a xs) (hn : xs.length ≤ 100000) (f : Nat → Bool) (v : Nat → V) (hw : ∀ x, wipe ((wipe σ vs).set j (some x)) vs = wipe σ vs)
    (ht : ∀ i x H2, xs[i]? = some x → Same H H2 → ∀ QB : Bool → Hp → Prop, (∀ H3, Same H2 H3 → QB (f i) H3) → tt ((wipe σ vs).set j (some x)) H2 QB)
    (he : ∀ i x H2, xs[i]? = some x → Same H H2 → f i = true → ∀ QV : VK, (∀ H3, Same H2 H3 → QV (v i) H3) → te ((wipe σ vs).set j (some x)) H2 QV)
    (q : ∀ Dl H2, H Dl = none → Same H H2 → H2 Dl = some (.lst (kept f v xs.length)) → Q (.ref Dl) H2) : tLc (iAny K tl) (gName j) tt te vs σ H Q := by
  refine ha _ (.inl ⟨a, xs, rfl, hx, fun Dl nD => ?_⟩)
  refine lc_list (Lw H Dl (kept f v)) ⟨nD, same_upd nD, upd_same⟩ (fun i H' hi p => p.2.1.seq hx) (fun i x H' hi p => ?_) (fun H' p => q Dl H' p.1 p.2.1 p.2.2)
  have hlt := (List.getElem?_eq_some_iff.mp hi).1
  exact ⟨hw _, lw_turn p (by omega) (fun H2 s2 => ht i x H2 hi s2) (fun H2 s2 => he i x H2 hi s2)⟩
/-- [te for j in a tuple if tt] -/
theorem c_tup (ha : ∀ R : VK, R (.ref a) H → tl σ H R) (hx : SqT K H a xs) (hn : xs.length ≤ 100000) (f : Nat → Bool) (v : Nat → V) (hw : ∀ x, wipe ((wipe σ vs).set j (some x)) vs = wipe σ vs)
    (ht : ∀ i x H2, xs[i]? = some x → Same H H2 → ∀ QB : Bool → Hp → Prop, (∀ H3, Same H2 H3 → QB (f i) H3) → tt ((wipe σ vs).set j (some x)) H2 QB)
    (he : ∀ i x H2, xs[i]? = some x → Same H H2 → f i = true → ∀ QV : VK, (∀ H3, Same H2 H3 → QV (v i) H3) → te ((wipe σ vs).set j (some x)) H2 QV)
    (q : ∀ Dl H2, H Dl = none → Same H H2 → H2 Dl = some (.lst (kept f v xs.length)) → Q (.ref Dl) H2) : tLc (iAny K tl) (gName j) tt te vs σ H Q := by
  refine ha _ (.inr (.inl ⟨a, xs, rfl, hx, fun Dl nD => ?_⟩))
  refine lc_tup (Lw H Dl (kept f v)) ⟨nD, same_upd nD, upd_same⟩ (fun i H' hi p => Same.tup p.2.1 hx) (fun i x H' hi p => ?_) (fun H' p => q Dl H' p.1 p.2.1 p.2.2)
  have hlt := (List.getElem?_eq_some_iff.mp hi).1
  exact ⟨hw _, lw_turn p (by omega) (fun H2 s2 => ht i x H2 hi s2) (fun H2 s2 => he i x H2 hi s2)⟩
end
/-! a loop over what the text makes anew -/
def LoopG (g : TG) (tb : TS) (D : Ends) (σ : L2.St) : It → Hp → Prop := fun J H1 => tFor (fun _ _ R => R J H1) g tb D σ H1
section
variable {K : PySem.W.Frag} {σ : L2.St} {H : Hp} {D : Ends} {te : TE} {tb : TS} {g : TG} {a : Addr} {xs : List V}
theorem i_for (q : te σ H fun x H1 => (∃ a xs, x = .ref a ∧ SqL K H1 a xs ∧ LoopG g tb D σ (Itl K a) H1) ∨ (∃ a xs, x = .ref a ∧ SqT K H1 a xs ∧ LoopG g tb D σ (Itt K a) H1) ∨ (∃ z, x = .str z ∧ LoopG g tb D σ (Its z) H1)) : tFor (iAny K te) g tb D σ H := q
theorem i_forL {B : Prop} (hx : SqL K H a xs) (Pv : Nat → L2.St → Hp → Prop) (h0 : Pv 0 σ H) (hl : ∀ i σ' H', i ≤ xs.length → Pv i σ' H' → SqL K H' a xs)
    (hs : ∀ i x σ' H', xs[i]? = some x → Pv i σ' H' → g x σ' H' fun σ2 H2 => tb { D with nx := Pv (i + 1), ct := Pv (i + 1), bk := D.nx } σ2 H2) (hd : ∀ σ' H', Pv xs.length σ' H' → D.nx σ' H') :
    (∃ a' xs', V.ref a = .ref a' ∧ SqL K H a' xs' ∧ LoopG g tb D σ (Itl K a') H) ∨ B := .inl ⟨a, xs, rfl, hx, for_list Pv h0 hl hs hd⟩
end
/-! a loop over a range whose end the text makes anew; lists put together, cut -/
section
variable {K : PySem.W.Frag} {σ : L2.St} {H : Hp} {Q : VK} {D : Ends} {ta : TA} {tb : TS} {g : TG} {a b : Addr} {xs ys : List V}
theorem i_forR (q : ta σ H fun vs H1 => ∃ j : Int, vs = [.int j] ∧ -(2 ^ 62) ≤ j ∧ j < 2 ^ 62 ∧ LoopG g tb D σ (Itr 0 j.toNat) H1) : tFor (iRng1 ta) g tb D σ H := q
theorem i_rngD {n : Int} (h0 : 0 ≤ n) (h : n ≤ 100000000) (Pv : Nat → L2.St → Hp → Prop) (hp : Pv 0 σ H)
    (hs : ∀ (i : Nat) σ' H', (i : Int) < n → Pv i σ' H' → g (.int (i : Int)) σ' H' fun σ2 H2 => tb { D with nx := Pv (i + 1), ct := Pv (i + 1), bk := D.nx } σ2 H2) (hd : ∀ σ' H', Pv n.toNat σ' H' → D.nx σ' H') :
    ∃ j : Int, [V.int n] = [.int j] ∧ -(2 ^ 62) ≤ j ∧ j < 2 ^ 62 ∧ LoopG g tb D σ (Itr 0 j.toNat) H := by
  refine ⟨n, rfl, by omega, by omega, ?_⟩
  refine for_range Pv hp (fun i σ' H' hi p => ?_) hd
  rw [Int.zero_add]
  exact hs i σ' H' (by omega) p
theorem i_catL (h1 : H a = some (.lst xs)) (h2 : H b = some (.lst ys)) (hz : xs.length + ys.length ≤ 100000) (q : ∀ p, H p = none → Q (.ref p) (upd H p (.lst (xs ++ ys)))) : addP K (.ref a) (.ref b) H Q :=
  .inr (.inr (.inl ⟨a, b, xs, ys, rfl, rfl, h1, h2, Nat.le_trans hz (by decide), q⟩))
theorem i_slL {lo hi : Option Int} (h : SqL K H a xs) (q : ∀ p, H p = none → Q (.ref p) (upd H p (.lst (cutV xs lo hi)))) : slP K (.ref a) lo hi H Q := .inl ⟨a, xs, rfl, h, q⟩
theorem cutV_init (xs : List V) : cutV xs none (some (-1)) = xs.dropLast := by
  unfold cutV
  rw [HT.sIx_none, List.drop_zero, Nat.sub_zero, List.dropLast_eq_take]
  have e : HT.sIx xs.length xs.length (some (-1)) = xs.length - 1 := by
    unfold HT.sIx
    dsimp only
    rw [if_pos (by decide)]
    omega
  rw [e]
theorem cutV_to {xs : List V} (k : Nat) : cutV xs none (some (k : Int)) = xs.take k := by
  unfold cutV
  rw [HT.sIx_none, List.drop_zero, Nat.sub_zero, HT.sIx_nat]
  by_cases h : k ≤ xs.length
  · rw [Nat.min_eq_left h]
  · rw [Nat.min_eq_right (by omega), List.take_length, List.take_of_length_le (by omega)]
theorem atI_last {xs : List V} {v : V} : atI (xs ++ [v]) (-1) = some v := by
  unfold atI ixN
  rw [if_neg (by decide), if_pos (by rw [List.length_append, List.length_singleton]; omega), Option.bind_some]
  have e : (-1 + ((xs ++ [v]).length : Int)).toNat = xs.length := by rw [List.length_append, List.length_singleton]; omega
  rw [e, List.getElem?_append_right (Nat.le_refl _), Nat.sub_self]
  rfl
end
end Fg
/-! A comprehension over a range, its list and what it makes anew. -/
namespace Fg
open PySem PySem.Spec PyProof.Rows L2
def LcG (g : TG) (tt : TT) (te : TE) (vs : List Nat) (σ : L2.St) (Q : VK) : It → Hp → Prop := fun J H1 => tLc (fun _ _ R => R J H1) g tt te vs σ H1 Q
section
variable {K : PySem.W.Frag} {σ : L2.St} {H : Hp} {Q : VK} {te tl : TE} {tt : TT} {g : TG} {ta : TA} {j : Nat} {vs : List Nat} {a : Addr} {xs : List V}
theorem i_lcR (q : ta σ H fun us H1 => ∃ n : Int, us = [.int n] ∧ -(2 ^ 62) ≤ n ∧ n < 2 ^ 62 ∧ LcG g tt te vs σ Q (Itr 0 n.toNat) H1) : tLc (iRng1 ta) g tt te vs σ H Q := q
theorem i_lcRg {n : Int} (h0 : 0 ≤ n) (h : n ≤ 100000) (hw : ∀ x, wipe ((wipe σ vs).set j (some x)) vs = wipe σ vs)
    (k : ∀ Dl, H Dl = none → ∃ W : Nat → Hp → Prop, W 0 (upd H Dl (.lst [])) ∧ (∀ (i : Nat) H', (i : Int) < n → W i H' → te ((wipe σ vs).set j (some (.int (i : Int)))) H' fun y H2 => ∃ acc, H2 Dl = some (.lst acc) ∧ acc.length < sizeLine ∧ W (i + 1) (upd H2 Dl (.lst (acc ++ [y])))) ∧ ∀ H', W n.toNat H' → Q (.ref Dl) H') :
    ∃ n' : Int, [V.int n] = [.int n'] ∧ -(2 ^ 62) ≤ n' ∧ n' < 2 ^ 62 ∧ LcG (gName j) tYes te vs σ Q (Itr 0 n'.toNat) H := by
  refine ⟨n, rfl, by omega, by omega, fun Dl nD => ?_⟩
  obtain ⟨W, w0, ws, wd⟩ := k Dl nD
  refine lc_range W w0 (fun i H' hi p => ?_) wd
  rw [Int.zero_add]
  exact ⟨hw _, i_yes (i_tt (ws i H' (by omega) p))⟩
end
end Fg
/-! Defs whose promise holds where nothing is being displayed around them (so that repr may be asked of data), and the end of a law of such defs. -/
namespace Fg
open PySem PySem.Spec PyProof.Rows L2
/-- the promise of the def at f, where no display stands around -/
structure GOk (P : Program) (w : World) (K : PySem.W.Frag) (mg : Str → Option Value) (base : Heap) (CX : CXT) (k : Nat) (f : Addr) (fd : FuncData) (ps : List Str) (sp : Sp) : Prop where
  many : ∀ vs H Q E, sp vs H Q E → vs.length = ps.length
  runs : ∀ (B : Around) (o : List Env) (t : Shared) (H : Hp) (ar : Args) (us : List Value) (vs : List V) (Q : VK) (E : XK),
    B.guards = some [] → Room k B → Env0 P w K mg base B o t H → BindsTo t fd ar (ps.zip us) → Vals vs us →
    sp vs H Q E → codeAny (model P w) B (.call (.ref f) ar) (CR CX o P w H t Q E) t
section
variable {P : Program} {w : World} {K : PySem.W.Frag} {mg : Str → Option Value} {base : Heap} {CX : CXT} {k : Nat} {f : Addr} {fd : FuncData} {ps N : List Str} {sp : Sp} {x q : Str} {st : Stmt}
theorem GOk.of (F : FnOk P w K mg base CX k f fd ps sp) : GOk P w K mg base CX k f fd ps sp :=
  ⟨F.len, fun B o t H ar us vs Q E _ r e b v s => F.run B o t H ar us vs Q E r e b v s⟩
/-- a def's body, walked where no display stands around -/
theorem gok_mk (F : Fun K x q st f fd) (S : FnScope N ps (defScope st)) (many : ∀ vs H Q E, sp vs H Q E → vs.length = ps.length)
    (body : ∀ (cv : Value) (B : Around) (o : List Env) (t : Shared) (H : Hp) (vs : List V) (Q : VK) (E : XK), B.guards = some [] →
      Room k (B.deeper (envOfC q (defScope st) t.heap.objs.size f cv)) → sp vs H Q E →
      ∃ rd, PSs (cxOf CX P w K mg base N q (defScope st) f cv B o t H E) (defBody st) rd ∧
        rd { nx := fun _ H2 => Q .non H2, rt := Q } (start N vs) H) : GOk P w K mg base CX (k + 1) f fd ps sp := by
  obtain ⟨c1, d1, kw1, dc1, pm1, an1, cv1, ct1, sl1, rfl, at1, code1⟩ := F.ex
  refine ⟨many, fun B o t H ar us vs Q E hgu room en bd rv asked => ?_⟩
  have inK : K.In t.heap := en.mod.kin.keeps fun b u e => (en.bs b u e).1
  have nolim : t.heap.NoLimit := en.mod.nolimit.keeps fun b u e => (en.bs b u e).1
  have n1 := many _ _ _ _ asked
  refine codeAny_call_function room.depth (inK _ _ at1) rfl S.co S.gen rfl
    (PySem.W.codeRec_of inK code1) (bd _ _ _ _ ?_)
  refine wpAny_newFunctionEnv_cells S.kind (fun ⟨nm, u⟩ hm => ?_) fun env he t1 made => ?_
  · exact (S.par nm (List.of_mem_zip hm).1).elim .inl fun z => .inr ⟨z, PySem.W.cellsFrom_some _ _ _ (.inl z)⟩
  subst he
  obtain ⟨rd, walked, holds⟩ := body cv1 B o t H vs Q E hgu (room.deeper _) asked
  have I0 := inv_start (CX := CX) (E := E) S room.hd en n1 rv made
  refine ⟨nolim.keeps made.toInCall.keep, codeAny_func (wpAny_mono (walked.run [] t1 (start N vs) H _ I0 holds) (fun fl t2 h2 => ?_) fun _ _ h2 => h2)⟩
  cases fl with
  | brk => obtain ⟨_, _, _, z⟩ := h2; exact z.elim
  | cont => obtain ⟨_, _, _, z⟩ := h2; exact z.elim
  | next =>
    obtain ⟨_, H2, J, z⟩ := h2
    exact ⟨.non, H2, J.os, J.bare, J.base, J.hok, rfl, z⟩
  | ret u =>
    obtain ⟨v, _, H2, J, rv2, z⟩ := h2
    exact ⟨v, H2, J.os, J.bare, J.base, J.hok, rv2, z⟩
end
section
variable {X : Cx} {CX : CXT} {k : Nat} {f : Addr} {fd : FuncData} {ps : List Str} {sp : Sp} {E : XK} {x : Str} {p pos : PySem.Pos} {e : Expr} {es : List Expr} {ta : TA}
theorem run_g (F : GOk X.prog X.w X.K X.mg X.base CX k f fd ps sp) (hgu : X.A.guards = some []) (hr : Room k X.A) (hb : Binds X.K fd ps []) (hx : Passes CX X E) {pins : List (Addr × Obj)} {σ : L2.St} {H : Hp} {s : Shared} {Q : VK} {us : List Value} {vs : List V}
    (I : Inv X pins σ H s) (r : Vals vs us) (h : sp (vs ++ []) H Q E) : wpAny (model X.prog X.w) X.A (call (.ref f) us) (EP X pins σ Q) X.xe s := by
  rw [List.append_nil] at h
  have n1 : us.length = ps.length := by rw [← r.length]; exact F.many _ _ _ _ h
  have b1 := hb s us I.kIn (by rw [List.append_nil]; exact n1)
  rw [List.append_nil] at b1
  refine wpAny_call (codeAny_mono (F.runs X.A X.stack s H ⟨us, []⟩ us vs Q E hgu hr I.env0 b1 r h) fun res t2 h2 => ?_)
  cases res with
  | error z => exact hx pins σ H s z t2 I h2
  | ok fl =>
    cases fl with
    | next => exact h2.elim
    | brk => exact h2.elim
    | cont => exact h2.elim
    | ret u => exact I.after h2
/-- .. and how it stands in the text -/
def GOK (P : Program) (w : World) (K : PySem.W.Frag) (mg : Str → Option Value) (base : Heap) (CX : CXT) (k : Nat) (x : Str) (ps : List Str) (sp : Sp) : Prop :=
  ∃ (f : Addr) (fd : FuncData), GOk P w K mg base CX k f fd ps sp ∧ mg x = some (.ref f) ∧ PySem.W.keepIn K (.ref f) = true ∧ Binds K fd ps []
theorem pe_g (G : GOK X.prog X.w X.K X.mg X.base CX k x ps sp) (hgu : X.A.guards = some []) (hr : Room k X.A) (hx : Passes CX X E) (ha : PA X (e :: es) ta) (hg : Gl X x := by rfl) (hd : (x == ("__debug__" : Str)) = false := by decide)
    (he : starEach (e :: es) X.env = (false, eval e X.env) :: starEach es X.env := by rfl) (hpl : (backTo pos (starEach es X.env)).any (·.1) = false := by rfl) :
    PE X (.Call (.Name x p) (e :: es) [] pos) (tCall sp [] E ta) := by
  obtain ⟨f, fd, F, hm, hk, hb⟩ := G
  exact ⟨fun pins s σ H Q I h => wpAny_Call_Name_kw (ld_glob I hg hm (PySem.W.callWith_K (h₀ := X.base) I.ok.mod.kin hk
    (thn (ha.run pos pins s σ H _ I h) fun us s1 ⟨vs, H1, I1, r, q⟩ => ⟨I1.kIn, run_g F hgu hr hb hx I1 r q⟩) he hpl) hd)⟩
end
/-! ### repr of data -/
def rReprD (K : PySem.W.Frag) : RC := fun xs H Q => ∃ (a : Addr) (d : PyData), xs = [.ref a] ∧ Dp K H (.ref a) d ∧ d.showable = true ∧ d.hasDict = false ∧ d.depth ≤ 60 ∧ d.shown.length ≤ sizeLine ∧ Q (.str d.shown) H
theorem call_reprD {X : Cx} (hgu : X.A.guards = some []) (hu : X.A.units + 64 < cLine) : CallR X (.builtin "repr") (rReprD X.K) := by
  intro pins s σ H xs us Q I r h
  obtain ⟨a, d, rfl, hd, h1, h2, h3, h4, q⟩ := h
  cases r with
  | cons ru rn =>
    cases rn
    cases (show _ = Value.ref a from ru)
    obtain ⟨as, rd⟩ := Dp.reads I d (.ref a) (.ref a) hd rfl
    exact repr_of_reads' rd h1 (PyData.noDict_hsm h2) hgu (by omega) (fun b o e => e)
      (fun h' u tk hk => ⟨.str d.shown, H, I.kept (t' := tk) hk, ⟨u, rfl⟩, q⟩) h4
/-! ### the end of a law, its def's promise holding where no display stands around -/
/-- one heap in which the script alone may be tracked -/
def SoleAt (K : PySem.W.Frag) (a : Addr) (t : Heap) (P : Program) (w : World) (xs : List V) (H : Hp) : Prop :=
  (∀ b u, H b = some u → b = a ∧ ∃ ob, u = .frz ob (.lst xs)) ∧ SqL K H a xs ∧ HOk P w H t ∧ (H a ≠ none → K.lookup a = none)
theorem law_g {P : Program} {w : World} {K : PySem.W.Frag} {mg mb : Str → Option Value} {CX : CXT} {k : Nat} {fa a : Addr} {fd : FuncData} {x : Str} {sp : Sp} {t : Shared} {vs : List Value} {ns : List Int}
    (inK : K.In t.heap) (nsM : t.heap.Ns mainGlobals mg) (nsB : t.heap.Ns builtinsNs mb) (boot : ∀ y : Str, y ≠ "__name__" → mb y = bootBuiltins y) (lim : t.heap.NoLimit) (noGen : t.gens = #[])
    (script : t.heap.get? a = some { cls := .type "list", data := .seq vs.toArray }) (hni : IntsAre vs ns) (few : ns.length ≤ sizeLine) (room : Room k callerA)
    (F : ∀ base : Heap, K.In base → base.Ns mainGlobals mg → GOk P w K mg base CX k fa fd [x] sp) (bind : ∀ (s : Shared) (u : Value), BindsTo s fd ⟨[u], []⟩ [(x, u)])
    (asked : ∀ H : Hp, Only H → SqL K H a (ns.map V.int) → sp [.ref a] H (fun v _ => v = .bl true) fun _ _ _ => False)
    (noErr : ∀ H e s', CX [] H t (fun _ _ _ => False) e s' → False) :
    codeAny (model P w) callerA (.call (.ref fa) ⟨[.ref a], []⟩) (fun r t2 => r = .ok (.ret (.bool true)) ∧ OldK t.heap t2.heap ∧ t2.os = t.os ∧ AllBare t2.gens) t := by
  have hv := vals_ints hni
  have hlen : vs.length = ns.length := hni.length
  obtain ⟨H, sole, sq, hok, free⟩ : ∃ H, SoleAt K a t.heap P w (ns.map V.int) H := by
    by_cases hk : ∃ o, K.lookup a = some o
    · obtain ⟨o, hk⟩ := hk
      have e1 := inK a o hk
      rw [script] at e1
      cases e1
      exact ⟨fun _ => none, fun b u z => (nomatch z), .inr ⟨_, vs.toArray, _, hk, rfl, rfl, rfl, by rw [List.size_toArray, hlen]; exact few, by simpa using hv⟩, fun b u z => (nomatch z), fun z => absurd rfl z⟩
    · have hn : K.lookup a = none := by
        cases e1 : K.lookup a with
        | none => rfl
        | some o => exact absurd ⟨o, e1⟩ hk
      have at1 : ∀ b u, (if b = a then some (HO.frz { cls := .type "list", data := .seq vs.toArray } (.lst (ns.map V.int))) else none) = some u → b = a ∧ u = HO.frz { cls := .type "list", data := .seq vs.toArray } (.lst (ns.map V.int)) := fun b u z => by
        by_cases hb : b = a
        · rw [if_pos hb] at z; exact ⟨hb, (Option.some.inj z).symm⟩
        · rw [if_neg hb] at z; cases z
      refine ⟨fun b => if b = a then some (HO.frz { cls := .type "list", data := .seq vs.toArray } (.lst (ns.map V.int))) else none, fun b u z => ⟨(at1 b u z).1, _, (at1 b u z).2⟩, .inl (.inr ⟨_, if_pos rfl⟩), fun b u z => ?_, fun _ => hn⟩
      obtain ⟨rfl, rfl⟩ := at1 b u z
      exact ⟨script, by rw [List.length_map]; exact few, vs, _, hv, script⟩
  have only : Only H := fun b => by
    cases e1 : H b with
    | none => exact .inl rfl
    | some u =>
      obtain ⟨_, ob, rfl⟩ := sole b u e1
      exact .inr ⟨ob, _, rfl⟩
  -- the base: what stands, the script hidden if it is tracked
  have hid : ∀ {b : Addr} {o : Obj}, t.heap.get? b = some o → (b = a → H a = none) → (hidT t.heap H).get? b = some o := fun {b o} e1 e2 => hidT_get e1 (by
    cases e3 : H b with
    | none => rfl
    | some u =>
      obtain ⟨rfl, _⟩ := sole b u e3
      rw [e2 rfl] at e3; cases e3)
  have ns : ∀ {b : Addr} {m : Str → Option Value}, t.heap.Ns b m → (hidT t.heap H).Ns b m := fun {b m} ⟨o, es, ep, e1, d1, r1⟩ => ⟨o, es, ep, hid e1 (fun z => by
    subst z
    rw [script] at e1
    cases e1
    cases (show Data.seq vs.toArray _ = Data.dict es ep from d1)), d1, r1⟩
  have inB : K.In (hidT t.heap H) := fun b o e1 => hid (inK b o e1) fun z => by
    subst z
    by_cases e2 : H b = none
    · exact e2
    · rw [free e2] at e1; cases e1
  obtain ⟨mc, l1, l2⟩ := lim
  have en : Env0 P w K mg (hidT t.heap H) callerA [] t H :=
    ⟨rfl, ⟨inB, ns nsM, ⟨mb, ns nsB, boot⟩, ⟨mc, ns l1, l2⟩⟩, fun b o e1 => of_hidT e1, Nat.le_of_eq (hidT_size _ _), trivial,
      fun b hb => absurd (show b ∈ ([] : List Addr) from hb) (by simp), hok, .of_eq noGen⟩
  refine codeAny_mono ((F _ inB (ns nsM)).runs callerA [] t H ⟨[.ref a], []⟩ [.ref a] [.ref a] _ _ rfl room en (bind t (.ref a)) (.cons rfl .nil) (asked H only sq)) fun res t2 h2 => ?_
  cases res with
  | error z => exact (noErr H z t2 h2).elim
  | ok fl =>
    cases fl with
    | next => exact h2.elim
    | brk => exact h2.elim
    | cont => exact h2.elim
    | ret u =>
      obtain ⟨v, H2, os, bare, un, hok2, rv, q⟩ := h2
      have q : v = .bl true := q
      subst q
      cases (show u = Value.bool true from rv)
      refine ⟨rfl, OldK.of_keep fun b o e1 => ?_, os, bare⟩
      cases e2 : H b with
      | none => exact un.keep b o e1 e2 (fun z => absurd (show b ∈ ([] : List Addr) from z) (by simp)) (by simp)
      | some u =>
        obtain ⟨rfl, ob, rfl⟩ := sole b u e2
        obtain ⟨k1, _⟩ := hok _ _ e2
        obtain ⟨k2, _⟩ := hok2 _ _ (un.frzs _ ob _ e2)
        rw [e1] at k1; cases k1
        exact k2
theorem walk_g {l : PySem.W.OpenLaw} {n k : Nat} {q : Program} {loose : List Str} {XP : (Str → Option Value) → Heap → Prop} {YP : World → Heap → Prop} {d : DefRec} {K : Params → PySem.W.Frag} {CX : World → CXT} {sp : World → Sp} {x : Str}
    (hn : l.most = some n) (hn2 : n ≤ sizeLine) (hdf : d.params.defaults = []) (room : Room k callerA) (hY : ∀ (w : World) (h : Heap), YP w h → (K w.params).In h)
    (F : ∀ (w : World) (mg : Str → Option Value) (fa : Addr) (h : Heap), (K w.params).In h → h.Ns mainGlobals mg → mg d.name = some (.ref fa) →
      ∃ fd : FuncData, (∀ (s : Shared) (u : Value), BindsTo s fd ⟨[u], []⟩ [(x, u)]) ∧ ∀ base : Heap, (K w.params).In base → base.Ns mainGlobals mg → GOk l.prog w (K w.params) mg base (CX w) k fa fd [x] (sp w))
    (asked : ∀ (w : World) (H : Hp) (a : Addr) (ns : List Int), ns.length ≤ n → Only H → SqL (K w.params) H a (ns.map V.int) → sp w [.ref a] H (fun v _ => v = .bl true) fun _ _ _ => False)
    (noErr : ∀ (w : World) (H : Hp) (s : Shared) (e : Value) (s' : Shared), CX w [] H s (fun _ _ _ => False) e s' → False) :
    PySem.W.WalkO q loose XP YP l.row.toRowW d [] (fun f vs => PySem.call f vs) :=
  Att.attach_call hn hdf fun w s0 t mg mb fa o pm cd doc a vs ns G Y ho hd hcd hmg hobj hints hlen hg =>
    let ⟨fd, hb, hF⟩ := F w mg fa _ (hY w _ Y) G.T.g hmg
    law_g (hY w _ Y) G.T.g G.T.b G.T.builtins G.T.nolimit hg hobj hints (Nat.le_trans hlen hn2) room hF hb
      (fun H hO hS => asked w H a ns hlen hO hS) fun H e s' => noErr w H t e s'
end Fg
/-! Own classes: methods, their defaults and keywords; own exceptions of two fields. -/
namespace Fg
open PySem PySem.Spec PyProof.Rows L2
/-! ### defs with defaults -/
/-- a def with defaults dvs keeps its promise -/
def OKD (P : Program) (w : World) (K : PySem.W.Frag) (mg : Str → Option Value) (base : Heap) (CX : CXT) (k : Nat) (x : Str) (ps : List Str) (dvs : List V) (sp : Sp) : Prop :=
  ∃ (f : Addr) (fd : FuncData), FnOk P w K mg base CX k f fd ps sp ∧ mg x = some (.ref f) ∧ PySem.W.keepIn K (.ref f) = true ∧ Binds K fd ps [] ∧ ∃ ds, Vals dvs ds ∧ Binds K fd ps ds
/-- .. how it stands in the text -/
def DefD (K : PySem.W.Frag) (mg : Str → Option Value) (x : Str) (st : Stmt) (ps : List Str) (dvs : List V) : Prop :=
  ∃ (f : Addr) (fd : FuncData), FunD K x x (defArgs st) (defBody st) (defScope st) dvs [] f fd ∧ mg x = some (.ref f) ∧ Binds K fd ps [] ∧ ∃ ds, Vals dvs ds ∧ Binds K fd ps ds
section
variable {P : Program} {w : World} {K : PySem.W.Frag} {mg : Str → Option Value} {base : Heap} {x q m : Str} {st : Stmt} {N ps : List Str} {k : Nat} {sp : Sp} {dvs : List V} {C : Addr} {CX : CXT}
theorem OKD.full (G : OKD P w K mg base CX k x ps dvs sp) : OK P w K mg base CX k x ps sp := by
  obtain ⟨f, fd, F, hm, hk, hb, _⟩ := G
  exact ⟨f, fd, F, hm, hk, hb⟩
theorem FunD.ok0 {f : Addr} {fd : FuncData} {kws : List (Str × V)} (F : FunD K x q (defArgs st) (defBody st) (defScope st) dvs kws f fd) (S : FnScope N ps (defScope st)) (len : ∀ vs H Q E, sp vs H Q E → vs.length = ps.length)
    (body : ∀ (cdv : Value) (A : Around) (outer : List Env) (s : Shared) (H : Hp) (vs : List V) (Q : VK) (E : XK), Room k (A.deeper (envOfC q (defScope st) s.heap.objs.size f cdv)) → sp vs H Q E →
      ∃ t, PSs (cxOf CX0 P w K mg base N q (defScope st) f cdv A outer s H E).nox (defBody st) t ∧ t { nx := fun _ H' => Q .non H', rt := Q } (start N vs) H) : FnOk P w K mg base CX0 (k + 1) f fd ps sp :=
  F.ok S len fun cdv A outer s H vs Q E hr h => let ⟨t, z, e⟩ := body cdv A outer s H vs Q E hr h; ⟨t, z.nox, e⟩
theorem OKD.mk (D : DefD K mg x st ps dvs) (S : FnScope N ps (defScope st)) (len : ∀ vs H Q E, sp vs H Q E → vs.length = ps.length)
    (body : ∀ (f : Addr) (cdv : Value) (A : Around) (outer : List Env) (s : Shared) (H : Hp) (vs : List V) (Q : VK) (E : XK), Room k (A.deeper (envOfC x (defScope st) s.heap.objs.size f cdv)) → sp vs H Q E →
      ∃ t, PSs (cxOf CX0 P w K mg base N x (defScope st) f cdv A outer s H E).nox (defBody st) t ∧ t { nx := fun _ H' => Q .non H', rt := Q } (start N vs) H) : OKD P w K mg base CX0 (k + 1) x ps dvs sp := by
  obtain ⟨f, fd, F, hm, hb, hd⟩ := D
  exact ⟨f, fd, FunD.ok0 F S len fun cdv A outer s H vs Q E hr h => body f cdv A outer s H vs Q E hr h, hm, F.kp, hb, hd⟩
theorem OKD.mkX (D : DefD K mg x st ps dvs) (S : FnScope N ps (defScope st)) (len : ∀ vs H Q E, sp vs H Q E → vs.length = ps.length)
    (body : ∀ (f : Addr) (cdv : Value) (A : Around) (outer : List Env) (s : Shared) (H : Hp) (vs : List V) (Q : VK) (E : XK), Room k (A.deeper (envOfC x (defScope st) s.heap.objs.size f cdv)) → sp vs H Q E →
      ∃ t, PSs (cxOf (L2.CX P w) P w K mg base N x (defScope st) f cdv A outer s H E) (defBody st) t ∧ t { nx := fun _ H' => Q .non H', rt := Q } (start N vs) H) : OKD P w K mg base (L2.CX P w) (k + 1) x ps dvs sp := by
  obtain ⟨f, fd, F, hm, hb, hd⟩ := D
  exact ⟨f, fd, F.ok S len fun cdv A outer s H vs Q E hr h => body f cdv A outer s H vs Q E hr h, hm, F.kp, hb, hd⟩
/-! ### methods -/
/-- a method of the class at C as it stands in the text -/
def MetIn (K : PySem.W.Frag) (C : Addr) (m q : Str) (st : Stmt) (ps : List Str) (dvs : List V) : Prop :=
  ∃ (f : Addr) (fd : FuncData), Meth K C m f ∧ FunD K m q (defArgs st) (defBody st) (defScope st) dvs [] f fd ∧ Binds K fd ps [] ∧ ∃ ds, Vals dvs ds ∧ Binds K fd ps ds
/-- .. and it keeps its promise -/
def MOK (P : Program) (w : World) (K : PySem.W.Frag) (mg : Str → Option Value) (base : Heap) (CX : CXT) (k : Nat) (C : Addr) (m : Str) (ps : List Str) (dvs : List V) (sp : Sp) : Prop :=
  ∃ (f : Addr) (fd : FuncData), Meth K C m f ∧ FnOk P w K mg base CX k f fd ps sp ∧ Binds K fd ps [] ∧ ∃ ds, Vals dvs ds ∧ Binds K fd ps ds
theorem MOK.mk (D : MetIn K C m q st ps dvs) (S : FnScope N ps (defScope st)) (len : ∀ vs H Q E, sp vs H Q E → vs.length = ps.length)
    (body : ∀ (f : Addr) (cdv : Value) (A : Around) (outer : List Env) (s : Shared) (H : Hp) (vs : List V) (Q : VK) (E : XK), Room k (A.deeper (envOfC q (defScope st) s.heap.objs.size f cdv)) → sp vs H Q E →
      ∃ t, PSs (cxOf CX0 P w K mg base N q (defScope st) f cdv A outer s H E).nox (defBody st) t ∧ t { nx := fun _ H' => Q .non H', rt := Q } (start N vs) H) : MOK P w K mg base CX0 (k + 1) C m ps dvs sp := by
  obtain ⟨f, fd, hm, F, hb, hd⟩ := D
  exact ⟨f, fd, hm, FunD.ok0 F S len fun cdv A outer s H vs Q E hr h => body f cdv A outer s H vs Q E hr h, hb, hd⟩
theorem MOK.mkX (D : MetIn K C m q st ps dvs) (S : FnScope N ps (defScope st)) (len : ∀ vs H Q E, sp vs H Q E → vs.length = ps.length)
    (body : ∀ (f : Addr) (cdv : Value) (A : Around) (outer : List Env) (s : Shared) (H : Hp) (vs : List V) (Q : VK) (E : XK), Room k (A.deeper (envOfC q (defScope st) s.heap.objs.size f cdv)) → sp vs H Q E →
      ∃ t, PSs (cxOf (L2.CX P w) P w K mg base N q (defScope st) f cdv A outer s H E) (defBody st) t ∧ t { nx := fun _ H' => Q .non H', rt := Q } (start N vs) H) : MOK P w K mg base (L2.CX P w) (k + 1) C m ps dvs sp := by
  obtain ⟨f, fd, hm, F, hb, hd⟩ := D
  exact ⟨f, fd, hm, F.ok S len fun cdv A outer s H vs Q E hr h => body f cdv A outer s H vs Q E hr h, hb, hd⟩
/-- a class whose instances its __init__ makes -/
def MkIn (K : PySem.W.Frag) (mg : Str → Option Value) (x q : Str) (C : Addr) (st : Stmt) (ps : List Str) (dvs : List V) : Prop :=
  ∃ (f : Addr) (fd : FuncData), Mk K C f ∧ mg x = some (.ref C) ∧ FunD K "__init__" q (defArgs st) (defBody st) (defScope st) dvs [] f fd ∧ Binds K fd ps [] ∧ ∃ ds, Vals dvs ds ∧ Binds K fd ps ds
def MkOK (P : Program) (w : World) (K : PySem.W.Frag) (mg : Str → Option Value) (base : Heap) (CX : CXT) (k : Nat) (x : Str) (C : Addr) (ps : List Str) (dvs : List V) (sp : Sp) : Prop :=
  ∃ (f : Addr) (fd : FuncData), Mk K C f ∧ mg x = some (.ref C) ∧ FnOk P w K mg base CX k f fd ps sp ∧ Binds K fd ps [] ∧ ∃ ds, Vals dvs ds ∧ Binds K fd ps ds
theorem MkOK.mk (D : MkIn K mg x q C st ps dvs) (S : FnScope N ps (defScope st)) (len : ∀ vs H Q E, sp vs H Q E → vs.length = ps.length)
    (body : ∀ (f : Addr) (cdv : Value) (A : Around) (outer : List Env) (s : Shared) (H : Hp) (vs : List V) (Q : VK) (E : XK), Room k (A.deeper (envOfC q (defScope st) s.heap.objs.size f cdv)) → sp vs H Q E →
      ∃ t, PSs (cxOf CX0 P w K mg base N q (defScope st) f cdv A outer s H E).nox (defBody st) t ∧ t { nx := fun _ H' => Q .non H', rt := Q } (start N vs) H) : MkOK P w K mg base CX0 (k + 1) x C ps dvs sp := by
  obtain ⟨f, fd, M, hm, F, hb, hd⟩ := D
  exact ⟨f, fd, M, hm, FunD.ok0 F S len fun cdv A outer s H vs Q E hr h => body f cdv A outer s H vs Q E hr h, hb, hd⟩
theorem MkOK.mkX (D : MkIn K mg x q C st ps dvs) (S : FnScope N ps (defScope st)) (len : ∀ vs H Q E, sp vs H Q E → vs.length = ps.length)
    (body : ∀ (f : Addr) (cdv : Value) (A : Around) (outer : List Env) (s : Shared) (H : Hp) (vs : List V) (Q : VK) (E : XK), Room k (A.deeper (envOfC q (defScope st) s.heap.objs.size f cdv)) → sp vs H Q E →
      ∃ t, PSs (cxOf (L2.CX P w) P w K mg base N q (defScope st) f cdv A outer s H E) (defBody st) t ∧ t { nx := fun _ H' => Q .non H', rt := Q } (start N vs) H) : MkOK P w K mg base (L2.CX P w) (k + 1) x C ps dvs sp := by
  obtain ⟨f, fd, M, hm, F, hb, hd⟩ := D
  exact ⟨f, fd, M, hm, F.ok S len fun cdv A outer s H vs Q E hr h => body f cdv A outer s H vs Q E hr h, hb, hd⟩
end
/-! ### the calls -/
section
variable {X : Cx} {CX : CXT} {k n : Nat} {x m : Str} {ps ks : List Str} {sp : Sp} {dvs : List V} {E : XK} {o e : Expr} {es : List Expr} {kws : List Keyword} {to : TE} {ta tk : TA} {p pos apos : PySem.Pos} {C : Addr}
/-- f(e, ..), the defaults filling up -/
theorem pe_fd (G : OKD X.prog X.w X.K X.mg X.base CX k x ps dvs sp) (hr : Room k X.A) (hx : Passes CX X E) (ha : PA X (e :: es) ta) (hg : Gl X x := by rfl) (hd : (x == ("__debug__" : Str)) = false := by decide)
    (he : starEach (e :: es) X.env = (false, eval e X.env) :: starEach es X.env := by rfl) (hpl : (backTo pos (starEach es X.env)).any (·.1) = false := by rfl) :
    PE X (.Call (.Name x p) (e :: es) [] pos) (tCall sp dvs E ta) := by
  obtain ⟨f, fd, F, hm, hk, _, ds, hv, hb⟩ := G
  exact pe_call F hr hg hm hk hb hv hx ha hd he hpl
theorem pe_m {pl : Sem Bool} (ho : PE X o to) (c : Cls X.K C) (G : MOK X.prog X.w X.K X.mg X.base CX k C m ps dvs sp) (hr : Room k X.A) (hx : Passes CX X E) (ha : PA X (e :: es) ta)
    (hst : starEach (e :: es) X.env = (false, eval e X.env) :: starEach es X.env := by rfl) (hpl : (backTo pos (starEach es X.env)).any (·.1) = false := by rfl)
    (ht : eval (.Call (.Attribute o m apos) (e :: es) [] pos) X.env = (do
      let ov ← eval o X.env
      standAt apos.atName
      let (f, first) ← holding [ov] (getMethod ov m pl)
      callWith pos f first (backTo pos (starEach (e :: es) X.env)) (backToKw pos (keywordEach [] X.env))) := by rfl) :
    PE X (.Call (.Attribute o m apos) (e :: es) [] pos) (tMeth C m sp [] E to ta) := by
  obtain ⟨f, fd, hm, F, hb, _⟩ := G
  exact pe_meth ho c hm F hr hb .nil hx ha hst hpl ht
/-- .. the defaults filling up -/
theorem pe_md {pl : Sem Bool} (ho : PE X o to) (c : Cls X.K C) (G : MOK X.prog X.w X.K X.mg X.base CX k C m ps dvs sp) (hr : Room k X.A) (hx : Passes CX X E) (ha : PA X (e :: es) ta)
    (hst : starEach (e :: es) X.env = (false, eval e X.env) :: starEach es X.env := by rfl) (hpl : (backTo pos (starEach es X.env)).any (·.1) = false := by rfl)
    (ht : eval (.Call (.Attribute o m apos) (e :: es) [] pos) X.env = (do
      let ov ← eval o X.env
      standAt apos.atName
      let (f, first) ← holding [ov] (getMethod ov m pl)
      callWith pos f first (backTo pos (starEach (e :: es) X.env)) (backToKw pos (keywordEach [] X.env))) := by rfl) :
    PE X (.Call (.Attribute o m apos) (e :: es) [] pos) (tMeth C m sp dvs E to ta) := by
  obtain ⟨f, fd, hm, F, _, ds, hv, hb⟩ := G
  exact pe_meth ho c hm F hr hb hv hx ha hst hpl ht
theorem pe_m0 {pl : Sem Bool} (ho : PE X o to) (c : Cls X.K C) (G : MOK X.prog X.w X.K X.mg X.base CX k C m ps dvs sp) (hr : Room k X.A) (hx : Passes CX X E)
    (ht : eval (.Call (.Attribute o m apos) [] [] pos) X.env = (do
      let ov ← eval o X.env
      standAt apos.atName
      let (f, first) ← holding [ov] (getMethod ov m pl)
      callWith pos f first (backTo pos (starEach [] X.env)) (backToKw pos (keywordEach [] X.env))) := by rfl) :
    PE X (.Call (.Attribute o m apos) [] [] pos) (tMeth C m sp [] E to tNil) := by
  obtain ⟨f, fd, hm, F, hb, _⟩ := G
  exact pe_meth0 ho c hm F hr hb .nil hx ht
/-- C(e, ..), the defaults filling up -/
theorem pe_mkd (G : MkOK X.prog X.w X.K X.mg X.base CX k x C ps dvs sp) (hr : Room (k + 1) X.A) (hx : Passes CX X E) (ha : PA X (e :: es) ta) (hg : Gl X x := by rfl) (hd : (x == ("__debug__" : Str)) = false := by decide)
    (he : starEach (e :: es) X.env = (false, eval e X.env) :: starEach es X.env := by rfl) (hpl : (backTo pos (starEach es X.env)).any (·.1) = false := by rfl) :
    PE X (.Call (.Name x p) (e :: es) [] pos) (tMake C sp dvs E ta) := by
  obtain ⟨f, fd, M, hm, F, _, ds, hv, hb⟩ := G
  exact pe_make M F hr hg hm hb hv hx ha hd he hpl
theorem pe_mk (G : MkOK X.prog X.w X.K X.mg X.base CX k x C ps dvs sp) (hr : Room (k + 1) X.A) (hx : Passes CX X E) (ha : PA X (e :: es) ta) (hg : Gl X x := by rfl) (hd : (x == ("__debug__" : Str)) = false := by decide)
    (he : starEach (e :: es) X.env = (false, eval e X.env) :: starEach es X.env := by rfl) (hpl : (backTo pos (starEach es X.env)).any (·.1) = false := by rfl) :
    PE X (.Call (.Name x p) (e :: es) [] pos) (tMake C sp [] E ta) := by
  obtain ⟨f, fd, M, hm, F, hb, _⟩ := G
  exact pe_make M F hr hg hm hb .nil hx ha hd he hpl
/-! ### a method called with keywords -/
/-- how it binds with the keywords ks: all parameters are given, in their order -/
def KwIn (K : PySem.W.Frag) (C : Addr) (m q : Str) (st : Stmt) (ps : List Str) (dvs : List V) (n : Nat) (ks : List Str) : Prop :=
  ∃ (f : Addr) (fd : FuncData), Meth K C m f ∧ FunD K m q (defArgs st) (defBody st) (defScope st) dvs [] f fd ∧ KBn K fd ps n ks (fun us ws => us ++ ws) (fun vs zs => vs ++ zs)
def KOK (P : Program) (w : World) (K : PySem.W.Frag) (mg : Str → Option Value) (base : Heap) (CX : CXT) (k : Nat) (C : Addr) (m : Str) (ps : List Str) (n : Nat) (ks : List Str) (sp : Sp) : Prop :=
  ∃ (f : Addr) (fd : FuncData), Meth K C m f ∧ FnOk P w K mg base CX k f fd ps sp ∧ KBn K fd ps n ks (fun us ws => us ++ ws) (fun vs zs => vs ++ zs)
/-- the same def: one promise -/
theorem KOK.of {P : Program} {w : World} {K : PySem.W.Frag} {mg : Str → Option Value} {base : Heap} {q : Str} {st : Stmt} (D : KwIn K C m q st ps dvs n ks) (G : MOK P w K mg base CX k C m ps dvs sp)
    (same : ∀ f g fd gd, Meth K C m f → Meth K C m g → FunD K m q (defArgs st) (defBody st) (defScope st) dvs [] f fd → FnOk P w K mg base CX k g gd ps sp → FnOk P w K mg base CX k f fd ps sp) : KOK P w K mg base CX k C m ps n ks sp := by
  obtain ⟨f, fd, hm, F, hk⟩ := D
  obtain ⟨g, gd, hn, G, _⟩ := G
  exact ⟨f, fd, hm, same f g fd gd hm hn F G, hk⟩
theorem KOK.mkX {P : Program} {w : World} {K : PySem.W.Frag} {mg : Str → Option Value} {base : Heap} {q : Str} {st : Stmt} {N : List Str} (D : KwIn K C m q st ps dvs n ks) (S : FnScope N ps (defScope st)) (len : ∀ vs H Q E, sp vs H Q E → vs.length = ps.length)
    (body : ∀ (f : Addr) (cdv : Value) (A : Around) (outer : List Env) (s : Shared) (H : Hp) (vs : List V) (Q : VK) (E : XK), Room k (A.deeper (envOfC q (defScope st) s.heap.objs.size f cdv)) → sp vs H Q E →
      ∃ t, PSs (cxOf (L2.CX P w) P w K mg base N q (defScope st) f cdv A outer s H E) (defBody st) t ∧ t { nx := fun _ H' => Q .non H', rt := Q } (start N vs) H) : KOK P w K mg base (L2.CX P w) (k + 1) C m ps n ks sp := by
  obtain ⟨f, fd, hm, F, hb⟩ := D
  exact ⟨f, fd, hm, F.ok S len fun cdv A outer s H vs Q E hr h => body f cdv A outer s H vs Q E hr h, hb⟩
/-- o.m(e, .., k = v, ..): n counts the instance, too -/
def tMethN (C : Addr) (m : Str) (n nk : Nat) (sp : Sp) (E : XK) (to : TE) (ta tk : TA) : TE := fun σ H Q => to σ H fun x H1 => ∃ a dx fs, x = .ref a ∧ H1 a = some (.ins C dx fs) ∧ fs.lookup m = none ∧
  ta σ H1 fun vs H2 => tk σ H2 fun zs H3 => vs.length + 1 = n ∧ zs.length = nk ∧ sp (x :: (vs ++ zs)) H3 Q E
theorem pe_mk_kw {pl : Sem Bool} (ho : PE X o to) (c : Cls X.K C) (G : KOK X.prog X.w X.K X.mg X.base CX k C m ps n ks sp) (hr : Room k X.A) (hx : Passes CX X E) (ha : PA X (e :: es) ta) (hkw : PK X kws tk)
    (hkp : ∀ f, Meth X.K C m f → PySem.W.keepIn X.K (.ref f) = true)
    (hall : (backToKw pos (keywordEach kws X.env)).all (·.1.isSome) = true := by rfl) (hks : (backToKw pos (keywordEach kws X.env)).filterMap (·.1) = ks := by rfl)
    (hst : starEach (e :: es) X.env = (false, eval e X.env) :: starEach es X.env := by rfl)
    (hpl : ((backTo pos (starEach (e :: es) X.env)).any (·.1) || (backToKw pos (keywordEach kws X.env)).any (·.1.isNone)) = false := by rfl)
    (ht : eval (.Call (.Attribute o m apos) (e :: es) kws pos) X.env = (do
      let ov ← eval o X.env
      standAt apos.atName
      let (f, first) ← holding [ov] (getMethod ov m pl)
      callWith pos f first (backTo pos (starEach (e :: es) X.env)) (backToKw pos (keywordEach kws X.env))) := by rfl) :
    PE X (.Call (.Attribute o m apos) (e :: es) kws pos) (tMethN C m n ks.length sp E to ta tk) := by
  obtain ⟨f, fd, hm, F, hb⟩ := G
  refine ⟨fun pins s σ H Q I h => ?_⟩
  refine PySem.W.methodCall_KW (pl := pl) (thn (ho.run pins s σ H _ I h) fun u s1 ⟨x, H1, I1, rx, a, dx, fs, ex, ea, l, q⟩ => ?_) ht
  subst ex
  obtain rfl : u = Value.ref a := rx
  refine getmeth_ok I1 ea c hm l ?_
  refine PySem.W.callWith_KW (first := [.ref a]) (h₀ := X.base) I.ok.mod.kin hm.kp hall (thn (ha.run pos pins s1 σ H1 _ I1 q) fun us s2 ⟨vs, H2, I2, r, q2⟩ => ?_) hpl hst
  refine thn (hkw.run pos pins s2 σ H2 _ I2 q2) fun ws s3 ⟨zs, H3, I3, rz, l1, l2, q3⟩ => ⟨I3.kIn, ?_⟩
  rw [hks]
  exact run_fnN (us := .ref a :: us) (vs := .ref a :: vs) F hr hb hx I3 (.cons rfl r) rz (by simpa using l1) l2 q3
/-- binding of a positional default by its keyword -/
theorem FunD.kbinds1 {K : PySem.W.Frag} {x q : Str} {params : Arguments} {body : List Stmt} {scope : Scope} {kws : List (Str × V)} {f : Addr} {fd : FuncData} (F : FunD K x q params body scope dvs kws f fd) (n : Nat) (ks : List Str) (hd : dvs ≠ [])
    (h : ∀ (T : Addr) (kV doc pm : Value) (an : Option Addr) (cdv ct : Value) (us its ws : List Value), us.length = n → its.length = dvs.length → ws.length = ks.length →
      ∃ k, bindArgs (PySem.W.fnOf x q params body scope (.ref T) kV doc pm an cdv ct) ⟨us, ks.zip ws⟩ = seqItems? (.ref T) >>= k ∧ k (some its.toArray) = pure (ps.zip (us ++ ws))) :
    KBn K fd ps n ks (fun us ws => us ++ ws) (fun vs zs => vs ++ zs) := by
  obtain ⟨oc, od, dV, kV, doc, pm, an, cdv, ct, osl, rfl, lk, hcd, hD, hK⟩ := F.ex
  rcases hD with ⟨e, _⟩ | ⟨_, T, o, its, m, rfl, lT, oT, rT⟩
  · exact absurd e hd
  · refine ⟨fun s us ws X l1 l2 => ?_, fun r1 r2 => r1.append r2⟩
    obtain ⟨k, e1, e2⟩ := h T kV doc pm an cdv ct us its ws l1 rT.length.symm l2
    refine BindsTo.of_looks fun M => ?_
    rw [e1]
    exact looks_items X lT oT (.of_pure e2)
end
/-! ### own exceptions with two fields -/
def spIni2 (C : Addr) (f g : Str) : Sp := sp3 fun x v y H Q _ => ∃ a, x = .ref a ∧ H a = some (exo a C none) ∧ ∀ dx H', H dx = none → dx ≠ a → H' a = some (exo a C (some dx)) → H' dx = some (exd dx [(g, y), (f, v)]) → (∀ b, b ≠ a → b ≠ dx → H' b = H b) → Q .non H'
def OKx2 (P : Program) (w : World) (K : PySem.W.Frag) (mg : Str → Option Value) (base : Heap) (x f g : Str) (C : Addr) : Prop :=
  mg x = some (.ref C) ∧ OexC K C ∧ ∃ (fI : Addr) (fd : FuncData), PySem.W.findIn K (.ref C) "__init__" = some (some (.ref fI)) ∧ PySem.W.typeIn K (.ref fI) = some (.type "function") ∧
    FnOk P w K mg base CX0 1 fI fd ["self", f, g] (spIni2 C f g) ∧ Binds K fd ["self", f, g] []
theorem ini_ok2 {P : Program} {w : World} {K : PySem.W.Frag} {mg : Str → Option Value} {base : Heap} {C fI : Addr} {f g q : Str} {st : Stmt} {fd : FuncData} (F : Fun K "__init__" q st fI fd) (S : FnScope ["self", f, g] ["self", f, g] (defScope st))
    (ox : OexC K C) (noF : PySem.W.findIn K (.ref C) f = some none) (noG : PySem.W.findIn K (.ref C) g = some none)
    (hb : ∀ (cdv : Value) (A : Around) (outer : List Env) (s : Shared) (H : Hp) (E : XK), PSs (cxOf CX0 P w K mg base ["self", f, g] q (defScope st) fI cdv A outer s H E).nox (defBody st) (tSeq (tOst K f (tVar 0) (tVar 1)) (tOst K g (tVar 0) (tVar 2)))) :
    FnOk P w K mg base CX0 1 fI fd ["self", f, g] (spIni2 C f g) := by
  refine F.ok S (fun vs H Q E h => len3 vs H Q E h) fun cdv A outer s H vs Q E hr h => ⟨_, hb cdv A outer s H E, ?_⟩
  obtain ⟨x, v, y, rfl, a, rfl, ha, q⟩ := h
  refine ⟨v, rfl, .ref a, rfl, a, C, rfl, ox, noF, .inl ⟨ha, fun dx n ne => ?_⟩⟩
  refine ⟨y, rfl, .ref a, rfl, a, C, rfl, ox, noG, .inr ⟨dx, _, upd_same, by rw [upd_ne ne, upd_same], by show 1 ≤ 900; decide, ?_⟩⟩
  refine q dx _ n ne (by rw [upd_ne ne.symm, upd_same]) upd_same fun b h1 h2 => by rw [upd_ne h2, upd_ne h1, upd_ne h2]
/-- C(e, ..): an error whose dict, new, holds the two fields, the later one first -/
def tMkE2 (C : Addr) (f g : Str) (ta : TA) : L2.St → Hp → XK → Prop := fun σ H Q => ta σ H fun vs H1 => ∃ v y, vs = [v, y] ∧ ∀ d, H1 d = none → Q (.ref C) (some d) (upd H1 d (.xd [(g, y), (f, v)]))
theorem pmk_E2 {X : Cx} {x f g : Str} {C : Addr} {e : Expr} {es : List Expr} {ta : TA} {p pos : PySem.Pos} {k : Nat} (G : OKx2 X.prog X.w X.K X.mg X.base x f g C) (hr : Room (k + 2) X.A) (ha : PA X (e :: es) ta) (hg : Gl X x := by rfl) (hdb : (x == ("__debug__" : Str)) = false := by decide)
    (he : starEach (e :: es) X.env = (false, eval e X.env) :: starEach es X.env := by rfl) (hpl : (backTo pos (starEach es X.env)).any (·.1) = false := by rfl) :
    PMk X (.Call (.Name x p) (e :: es) [] pos) (tMkE2 C f g ta) := by
  obtain ⟨hm, ox, fI, fd, iC, tI, F, hb⟩ := G
  intro pins s σ H Q I h
  refine pmk_oex (k := 1) (dvs := []) ox iC tI F (hr.mono (by omega)) hb .nil pass0 hg hm (pa_mono ha) hdb he hpl pins s σ H Q I ⟨_, h, fun vs H1 hq => ?_⟩
  obtain ⟨v, y, rfl, q⟩ := hq
  refine ⟨by show 2 ≤ 1000; omega, fun a na => ⟨.ref a, v, y, rfl, a, rfl, upd_same, fun dx H' nd ne h1 h2 h3 => ⟨rfl, dx, [(g, y), (f, v)], h1, h2, ?_, ?_⟩⟩⟩
  · rw [upd_ne ne] at nd; exact nd
  · have n2 : H1 dx = none := by rw [upd_ne ne] at nd; exact nd
    have e1 : upd (del H' a) dx (.xd [(g, y), (f, v)]) = upd H1 dx (.xd [(g, y), (f, v)]) := by
      funext b
      by_cases hb : b = dx
      · rw [hb, upd_same, upd_same]
      · rw [upd_ne hb, upd_ne hb]
        by_cases ha : b = a
        · rw [ha, del_same, na]
        · rw [del_ne ha, h3 b ha hb, upd_ne ha]
    rw [e1]
    exact q dx n2
/-- the wish for an error of the class at C whose dict, new, holds fs -/
def Rzf (E : XK) (H : Hp) (C : Addr) (fs : List (Str × V)) : Prop := ∀ d H', H d = none → Same H H' → H' d = some (.xd fs) → E (.ref C) (some d) H'
theorem Rzf.mono {E : XK} {H H1 : Hp} {C : Addr} {fs : List (Str × V)} (h : Rzf E H C fs) (s : Same H H1) : Rzf E H1 C fs := fun d H' n s' e => h d H' (s.free n) (s.trans s') e
theorem Rzf.at {E : XK} {H : Hp} {C : Addr} {fs : List (Str × V)} (h : Rzf E H C fs) {d : Addr} (n : H d = none) : E (.ref C) (some d) (upd H d (.xd fs)) :=
  h d _ n (fun b o e => by rw [upd_ne (ne_of_none e n)]; exact e) upd_same
section
variable {σ : L2.St} {H : Hp} {Q : XK} {C : Addr} {f g : Str} {ta : TA} {v y : V} {P : V → V → Prop}
theorem i_mkE2 (q : ta σ H fun vs H1 => ∃ v y, vs = [v, y] ∧ ∀ d, H1 d = none → Q (.ref C) (some d) (upd H1 d (.xd [(g, y), (f, v)]))) : tMkE2 C f g ta σ H Q := q
theorem i_ex2 (q : P v y) : ∃ a b, [v, y] = [a, b] ∧ P a b := ⟨v, y, rfl, q⟩
end
/-! ### what remains of GOK -/
theorem GOK.mk {P : Program} {w : World} {K : PySem.W.Frag} {mg : Str → Option Value} {base : Heap} {x : Str} {st : Stmt} {N ps : List Str} {k : Nat} {sp : Sp} (D : DefIn K mg x st ps) (S : FnScope N ps (defScope st)) (len : ∀ vs H Q E, sp vs H Q E → vs.length = ps.length)
    (body : ∀ (f : Addr) (cdv : Value) (A : Around) (outer : List Env) (s : Shared) (H : Hp) (vs : List V) (Q : VK) (E : XK), A.guards = some [] → Room k (A.deeper (envOfC x (defScope st) s.heap.objs.size f cdv)) → sp vs H Q E →
      ∃ t, PSs (cxOf CX0 P w K mg base N x (defScope st) f cdv A outer s H E).nox (defBody st) t ∧ t { nx := fun _ H' => Q .non H', rt := Q } (start N vs) H) : GOK P w K mg base CX0 (k + 1) x ps sp := by
  obtain ⟨f, fd, F, hm, hb⟩ := D
  refine ⟨f, fd, gok_mk F S len fun cdv A outer s H vs Q E hg hr h => ?_, hm, F.kp, hb⟩
  obtain ⟨t, z, e⟩ := body f cdv A outer s H vs Q E hg hr h
  exact ⟨t, z.nox, e⟩
end Fg
/-! Data in the heap: what a value is, and what a step adds to what is known. -/
namespace Fg
open PySem PySem.Spec PyProof.Rows L2
abbrev dS (l : List Nat) : PyData := .str ⟨l.toArray⟩
mutual
inductive At (H : Hp) : V → PyData → Prop
  | non : At H .non .none
  | bl (b : Bool) : At H (.bl b) (.bool b)
  | int (i : Int) : At H (.int i) (.int i)
  | str (l : List Nat) : l.length ≤ 10000 → At H (S l) (dS l)
  | lst {a : Addr} {xs : List V} {ds : List PyData} : H a = some (.lst xs) → xs.length ≤ 10000 → AtAll H xs ds → At H (.ref a) (.list ds)
  | tup {a : Addr} {xs : List V} {ds : List PyData} : H a = some (.tup xs) → xs.length ≤ 10000 → AtAll H xs ds → At H (.ref a) (.tuple ds)
  | dct {a : Addr} : H a = some (.dK []) → At H (.ref a) (.dict [])
inductive AtAll (H : Hp) : List V → List PyData → Prop
  | nil : AtAll H [] []
  | cons {v : V} {vs : List V} {d : PyData} {ds : List PyData} : At H v d → AtAll H vs ds → AtAll H (v :: vs) (d :: ds)
end
section
variable {H H' : Hp}
mutual
theorem At.mono (s : Same H H') : ∀ (d : PyData) (v : V), At H v d → At H' v d
  | .none, _, h => by cases h; exact .non
  | .bool b, _, h => by cases h; exact .bl b
  | .int i, _, h => by cases h; exact .int i
  | .str x, _, h => by
    cases h with
    | str l hl => exact .str l hl
  | .list ds, _, h => by
    cases h with
    | lst e l a => exact .lst (s _ _ e) l (AtAll.mono s ds _ a)
  | .tuple ds, _, h => by
    cases h with
    | tup e l a => exact .tup (s _ _ e) l (AtAll.mono s ds _ a)
  | .dict kvs, _, h => by
    cases h with
    | dct e => exact .dct (s _ _ e)
theorem AtAll.mono (s : Same H H') : ∀ (ds : List PyData) (vs : List V), AtAll H vs ds → AtAll H' vs ds
  | [], _, h => by cases h; exact .nil
  | d :: ds, _, h => by
    cases h with
    | cons h1 h2 => exact .cons (At.mono s d _ h1) (AtAll.mono s ds _ h2)
end
theorem At.same {v : V} {d : PyData} (h : At H v d) (s : Same H H') : At H' v d := At.mono s d v h
theorem AtAll.same {vs : List V} {ds : List PyData} (h : AtAll H vs ds) (s : Same H H') : AtAll H' vs ds := AtAll.mono s ds vs h
mutual
theorem At.dp (K : PySem.W.Frag) : ∀ (d : PyData) (v : V), At H v d → d.hasDict = false → Dp K H v d
  | .none, _, h, _ => by cases h; exact .non
  | .bool b, _, h, _ => by cases h; exact .bl b
  | .int i, _, h, _ => by cases h; exact .int i
  | .str x, _, h, _ => by cases h; exact .str _
  | .list ds, _, h, n => by
    cases h with
    | lst e l a => exact .lst (.inl (.inl e)) (AtAll.dp K ds _ a n)
  | .tuple ds, _, h, n => by
    cases h with
    | tup e l a => exact .tup (.inl (.inl e)) (AtAll.dp K ds _ a n)
  | .dict kvs, _, h, n => by cases n
theorem AtAll.dp (K : PySem.W.Frag) : ∀ (ds : List PyData) (vs : List V), AtAll H vs ds → PyData.hasDictAll ds = false → DpAll K H vs ds
  | [], _, h, _ => by cases h; exact .nil
  | d :: ds, _, h, n => by
    cases h with
    | cons h1 h2 =>
      have n' : (d.hasDict || PyData.hasDictAll ds) = false := n
      rw [Bool.or_eq_false_iff] at n'
      exact .cons (At.dp K d _ h1 n'.1) (AtAll.dp K ds _ h2 n'.2)
end
theorem AtAll.len : ∀ {vs : List V} {ds : List PyData}, AtAll H vs ds → vs.length = ds.length
  | _, _, .nil => rfl
  | _, _, .cons _ r => congrArg Nat.succ r.len
theorem AtAll.get : ∀ {vs : List V} {ds : List PyData}, AtAll H vs ds → ∀ {i : Nat} {v : V}, vs[i]? = some v → ∃ d, ds[i]? = some d ∧ At H v d
  | _, _, .nil, _, _, e => by simp at e
  | _, _, .cons h r, 0, _, e => by
    cases (show some _ = some _ from e)
    exact ⟨_, rfl, h⟩
  | _, _, .cons h r, i + 1, v, e => r.get (i := i) e
theorem AtAll.at : ∀ {vs : List V} {ds : List PyData}, AtAll H vs ds → ∀ {i : Nat} {d : PyData}, ds[i]? = some d → ∃ v, vs[i]? = some v ∧ At H v d
  | _, _, .nil, _, _, e => by simp at e
  | _, _, .cons h r, 0, _, e => by
    cases (show some _ = some _ from e)
    exact ⟨_, rfl, h⟩
  | _, _, .cons h r, i + 1, v, e => r.at (i := i) e
theorem AtAll.app : ∀ {vs ws : List V} {ds es : List PyData}, AtAll H vs ds → AtAll H ws es → AtAll H (vs ++ ws) (ds ++ es)
  | _, _, _, _, .nil, r => r
  | _, _, _, _, .cons h t, r => .cons h (t.app r)
theorem AtAll.one {v : V} {d : PyData} (h : At H v d) : AtAll H [v] [d] := .cons h .nil
theorem AtAll.take : ∀ {vs : List V} {ds : List PyData}, AtAll H vs ds → ∀ (n : Nat), AtAll H (vs.take n) (ds.take n)
  | _, _, .nil, n => by simp; exact .nil
  | _, _, .cons h r, 0 => .nil
  | _, _, .cons h r, n + 1 => .cons h (r.take n)
theorem AtAll.drop : ∀ {vs : List V} {ds : List PyData}, AtAll H vs ds → ∀ (n : Nat), AtAll H (vs.drop n) (ds.drop n)
  | _, _, .nil, n => by simp; exact .nil
  | _, _, .cons h r, 0 => .cons h r
  | _, _, .cons h r, n + 1 => r.drop n
theorem AtAll.map {α : Type} {f : α → V} {g : α → PyData} (h : ∀ x, At H (f x) (g x)) : ∀ l : List α, AtAll H (l.map f) (l.map g)
  | [] => .nil
  | x :: r => .cons (h x) (AtAll.map h r)
theorem AtAll.rep {v : V} {d : PyData} (h : At H v d) : ∀ n : Nat, AtAll H (List.replicate n v) (List.replicate n d)
  | 0 => .nil
  | n + 1 => .cons h (AtAll.rep h n)
end
/-! ### A: what is known, G: all that stands -/
structure Ext (A G A' G' : Hp) : Prop where
  aa : Same A A'
  ag : Same A' G'
  gg : Same G G'
  nw : ∀ b, A b = none → A' b ≠ none → G b = none
section
variable {A G A1 G1 A2 G2 H : Hp} {p : Addr} {o o' : HO} {v : V} {d : PyData}
theorem Ext.refl (s : Same A G) : Ext A G A G := ⟨fun _ _ e => e, s, fun _ _ e => e, fun b h1 h2 => absurd h1 h2⟩
theorem Ext.trans (x : Ext A G A1 G1) (y : Ext A1 G1 A2 G2) : Ext A G A2 G2 := by
  refine ⟨x.aa.trans y.aa, y.ag, x.gg.trans y.gg, fun b h1 h2 => ?_⟩
  by_cases h : A1 b = none
  · exact x.gg.free (y.nw b h h2)
  · exact x.nw b h1 h
/-- something new, known -/
theorem Ext.new (x : Ext A G A1 G1) (n : G1 p = none) : Ext A G (upd A1 p o) (upd G1 p o) := by
  have na : A1 p = none := x.ag.free n
  refine ⟨Same.upd x.aa (x.gg.trans (fun _ _ e => e) |>.free n |> fun z => ?_), fun b u e => ?_, Same.upd x.gg (x.gg.free n), fun b h1 h2 => ?_⟩
  · by_cases h : A p = none
    · exact h
    · exact absurd na (by
        intro z
        cases e : A p with
        | none => exact h e
        | some u => rw [x.aa _ _ e] at z; cases z)
  · by_cases hb : b = p
    · rw [hb, upd_same] at e
      rw [hb, upd_same]; exact e
    · rw [upd_ne hb] at e
      rw [upd_ne hb]; exact x.ag _ _ e
  · by_cases hb : b = p
    · rw [hb]; exact x.gg.free n
    · rw [upd_ne hb] at h2
      exact x.nw b h1 h2
/-- something new, hidden -/
theorem Ext.hid (x : Ext A G A1 G1) (n : G1 p = none) : Ext A G A1 (upd G1 p o) :=
  ⟨x.aa, x.ag.trans (same_upd n), x.gg.trans (same_upd n), x.nw⟩
/-- what is hidden, and was not there at first, changes -/
theorem Ext.put (x : Ext A G A1 G1) (n : G p = none) (na : A1 p = none) : Ext A G A1 (upd G1 p o) :=
  ⟨x.aa, fun b u e => by rw [upd_ne (ne_of_none e na)]; exact x.ag _ _ e, Same.upd x.gg n, x.nw⟩
/-- what was hidden is known -/
theorem Ext.show (x : Ext A G A1 G1) (n : G p = none) (sa : Same A G) (e : G1 p = some o) : Ext A G (upd A1 p o) G1 := by
  have na : A p = none := sa.free n
  refine ⟨Same.upd x.aa na, fun b u e1 => ?_, x.gg, fun b h1 h2 => ?_⟩
  · by_cases hb : b = p
    · rw [hb, upd_same] at e1
      rw [hb, e]; exact e1
    · rw [upd_ne hb] at e1
      exact x.ag _ _ e1
  · by_cases hb : b = p
    · rw [hb]; exact n
    · rw [upd_ne hb] at h2
      exact x.nw b h1 h2
/-- what is hidden stays hidden -/
theorem Ext.free (x : Ext A G A1 G1) (n : A p = none) (e : G p ≠ none) : A1 p = none := by
  by_cases h : A1 p = none
  · exact h
  · exact absurd (x.nw p n h) e
theorem Ext.up (x : Ext A G A1 G1) (h : At A1 v d) : At G1 v d := h.same x.ag
theorem Ext.old (x : Ext A G A1 G1) (h : At A v d) : At A1 v d := h.same x.aa
end
/-! ### comprehensions whose elements are data -/
section
variable {K : PySem.W.Frag} {σ : L2.St} {A G : Hp} {Q : VK} {te tl : TE} {tt : TT} {ta : TA} {j : Nat} {a : Addr} {xs : List V} {vs : List Nat}
/-- behind i turns: the list at Dl, hidden, holds data -/
def Cw (A G : Hp) (Dl : Addr) (f : Nat → PyData) (i : Nat) (G1 : Hp) : Prop := G Dl = none ∧ ∃ A1 l, Ext A G A1 G1 ∧ A1 Dl = none ∧ G1 Dl = some (.lst l) ∧ AtAll A1 l ((List.range i).map f)
theorem cw_start (s : Same A G) {Dl : Addr} {f : Nat → PyData} (n : G Dl = none) : Cw A G Dl f 0 (upd G Dl (.lst [])) :=
  ⟨n, A, [], (Ext.refl s).hid n, s.free n, upd_same, .nil⟩
theorem cw_turn {Dl : Addr} {f : Nat → PyData} {i : Nat} {G1 : Hp} {σ2 : L2.St} (w : Cw A G Dl f i G1) (hi : i < 10000)
    (he : ∀ A1 G1, Ext A G A1 G1 → ∀ QV : VK, (∀ A2 G2 v, Ext A1 G1 A2 G2 → At A2 v (f i) → QV v G2) → te σ2 G1 QV) :
    tYes σ2 G1 fun b H3 => if b = true then te σ2 H3 fun y H4 => ∃ acc, H4 Dl = some (.lst acc) ∧ acc.length < sizeLine ∧ Cw A G Dl f (i + 1) (upd H4 Dl (.lst (acc ++ [y]))) else Cw A G Dl f (i + 1) H3 := by
  obtain ⟨n, A1, l, x, na, e, al⟩ := w
  refine i_yes ?_
  rw [if_pos rfl]
  refine he A1 G1 x _ fun A2 G2 v y hv => ?_
  have na2 : A2 Dl = none := y.free na (by rw [e]; simp)
  have ll : l.length = i := by rw [al.len]; simp
  refine ⟨l, y.gg _ _ e, Nat.lt_of_le_of_lt (Nat.le_of_eq ll) (Nat.lt_trans hi (by decide)), n, A2, l ++ [v], (x.trans y).put n na2, na2, upd_same, ?_⟩
  rw [List.range_succ, List.map_append]
  exact (al.same y.aa).app (.one hv)
theorem cw_end {Dl : Addr} {f : Nat → PyData} {n : Nat} {G1 : Hp} (w : Cw A G Dl f n G1) (sa : Same A G) (hn : n ≤ 10000) : ∃ A1, Ext A G A1 G1 ∧ At A1 (.ref Dl) (.list ((List.range n).map f)) ∧ ∃ l, G1 Dl = some (.lst l) ∧ A1 Dl = some (.lst l) ∧ AtAll A1 l ((List.range n).map f) ∧ l.length = n := by
  obtain ⟨h, A1, l, x, na, e, al⟩ := w
  have ll : l.length = n := by rw [al.len]; simp
  have al2 := al.same (same_upd (o := .lst l) na)
  exact ⟨_, x.show h sa e, .lst upd_same (by omega) al2, l, e, upd_same, al2, ll⟩
/-- [te for j in a list] -/
theorem c_lstD {ds : List PyData} (sa : Same A G) (ha : ∀ R : VK, R (.ref a) G → tl σ G R) (hx : SqL K G a xs) (hd : AtAll A xs ds) (hn : xs.length ≤ 10000) (f : PyData → PyData) (hw : ∀ x, wipe ((wipe σ vs).set j (some x)) vs = wipe σ vs)
    (he : ∀ x d A1 G1, d ∈ ds → At A1 x d → Ext A G A1 G1 → ∀ QV : VK, (∀ A2 G2 v, Ext A1 G1 A2 G2 → At A2 v (f d) → QV v G2) → te ((wipe σ vs).set j (some x)) G1 QV)
    (q : ∀ Dl A1 G1 l, Ext A G A1 G1 → G1 Dl = some (.lst l) → A1 Dl = some (.lst l) → AtAll A1 l (ds.map f) → l.length = ds.length → Q (.ref Dl) G1) : tLc (iAny K tl) (gName j) tYes te vs σ G Q := by
  have hl := hd.len
  have e1 : (List.range ds.length).map (fun i => f (ds.getD i .none)) = ds.map f := by
    refine List.ext_getElem? fun i => ?_
    rw [List.getElem?_map, List.getElem?_map]
    by_cases h : i < ds.length
    · rw [List.getElem?_range h, Option.map_some, List.getD_eq_getElem?_getD, List.getElem?_eq_getElem h]
      rfl
    · rw [List.getElem?_eq_none (by simpa using h), List.getElem?_eq_none (by omega)]
      rfl
  refine ha _ (.inl ⟨a, xs, rfl, hx, fun Dl nD => ?_⟩)
  refine lc_list (xs := xs) (Cw A G Dl fun i => f (ds.getD i .none)) (cw_start sa nD) (fun i H' hi p => ?_) (fun i x H' hi p => ?_) (fun H' p => ?_)
  · obtain ⟨_, _, _, x, _⟩ := p
    exact x.gg.seq hx
  · have hlt := (List.getElem?_eq_some_iff.mp hi).1
    obtain ⟨d, hd1, hd2⟩ := hd.get hi
    refine ⟨hw _, cw_turn p (by omega) fun A1 G1 y QV k => he x d A1 G1 (List.mem_of_getElem? hd1) (hd2.same y.aa) y QV fun A2 G2 v z hv => k A2 G2 v z ?_⟩
    rw [List.getD_eq_getElem?_getD, hd1]
    exact hv
  · rw [hl] at p
    obtain ⟨A1, y, _, l, e, ea, al, ll⟩ := cw_end p sa (by omega)
    rw [e1] at al
    exact q Dl A1 H' l y e ea al ll
/-- [te for j in a tuple] -/
theorem c_tupD {ds : List PyData} (sa : Same A G) (ha : ∀ R : VK, R (.ref a) G → tl σ G R) (hx : SqT K G a xs) (hd : AtAll A xs ds) (hn : xs.length ≤ 10000) (f : PyData → PyData) (hw : ∀ x, wipe ((wipe σ vs).set j (some x)) vs = wipe σ vs)
    (he : ∀ x d A1 G1, d ∈ ds → At A1 x d → Ext A G A1 G1 → ∀ QV : VK, (∀ A2 G2 v, Ext A1 G1 A2 G2 → At A2 v (f d) → QV v G2) → te ((wipe σ vs).set j (some x)) G1 QV)
    (q : ∀ Dl A1 G1 l, Ext A G A1 G1 → G1 Dl = some (.lst l) → A1 Dl = some (.lst l) → AtAll A1 l (ds.map f) → l.length = ds.length → Q (.ref Dl) G1) : tLc (iAny K tl) (gName j) tYes te vs σ G Q := by
  have hl := hd.len
  have e1 : (List.range ds.length).map (fun i => f (ds.getD i .none)) = ds.map f := by
    refine List.ext_getElem? fun i => ?_
    rw [List.getElem?_map, List.getElem?_map]
    by_cases h : i < ds.length
    · rw [List.getElem?_range h, Option.map_some, List.getD_eq_getElem?_getD, List.getElem?_eq_getElem h]
      rfl
    · rw [List.getElem?_eq_none (by simpa using h), List.getElem?_eq_none (by omega)]
      rfl
  refine ha _ (.inr (.inl ⟨a, xs, rfl, hx, fun Dl nD => ?_⟩))
  refine lc_tup (xs := xs) (Cw A G Dl fun i => f (ds.getD i .none)) (cw_start sa nD) (fun i H' hi p => ?_) (fun i x H' hi p => ?_) (fun H' p => ?_)
  · obtain ⟨_, _, _, x, _⟩ := p
    exact Same.tup x.gg hx
  · have hlt := (List.getElem?_eq_some_iff.mp hi).1
    obtain ⟨d, hd1, hd2⟩ := hd.get hi
    refine ⟨hw _, cw_turn p (by omega) fun A1 G1 y QV k => he x d A1 G1 (List.mem_of_getElem? hd1) (hd2.same y.aa) y QV fun A2 G2 v z hv => k A2 G2 v z ?_⟩
    rw [List.getD_eq_getElem?_getD, hd1]
    exact hv
  · rw [hl] at p
    obtain ⟨A1, y, _, l, e, ea, al, ll⟩ := cw_end p sa (by omega)
    rw [e1] at al
    exact q Dl A1 H' l y e ea al ll
end
/-! ### rules by name -/
section
variable {X : Cx} (K : PySem.W.Frag) {e o value : Expr} {es : List Expr} {te to tv : TE} {ta : TA} {f : Str} {p pos apos cpos tpos pos' : PySem.Pos}
theorem peFld (he : PE X e te) (h : X.K = K := by rfl) (hb : attributeBase e f X.env (eval e X.env) = eval e X.env := by rfl) : PE X (.Attribute e f pos) (tFld K te f) := h ▸ pe_fld he hb
theorem psFld (ho : PE X o to) (hv : PE X value tv) (h : X.K = K := by rfl) (hs : swapsWith value (some (.Attribute o f pos')) pos.line X.env = pure false := by rfl) : PS X (.Assign [.Attribute o f pos'] value pos) (sFld K to tv f) := h ▸ ps_fld ho hv hs
theorem psFldAug {op : Operator} {rd : V → V → Hp → VK → Prop} (ho : PE X o to) (hv : PE X value tv) (hop : InOp X op rd) (h : X.K = K := by rfl) : PS X (.AugAssign (.Attribute o f tpos) op value pos) (sFldAug K to tv rd f) := h ▸ ps_fldaug ho hv hop
def rSplit : V → List V → Hp → VK → Prop := fun x xs H Q => ∃ a b, x = .str a ∧ xs = [.str b] ∧ (b.length == 0) = false ∧ a.length + 2 ≤ sizeLine ∧ rNewStrs (Txt.split a b) H Q
def tSpl (K : PySem.W.Frag) (to : TE) (t : TA) : TE := tBM K "str" rSplit to t
theorem peSplit (ho : PE X o to) (ha : PA X (e :: es) ta) (h : X.K = K := by rfl) (hbase : attributeBase o "split" X.env (eval o X.env) = eval o X.env := by rfl)
    (hfew : ((backTo cpos (starEach (e :: es) X.env)).all (fun x => !x.1) && (backToKw cpos (keywordEach [] X.env)).all (fun x => x.1.isSome)
      && decide ((e :: es).length + ([] : List Keyword).length + (if ([] : List Keyword).isEmpty then 0 else 1) < 30)) = true := by rfl)
    (hline : (apos.endLine == cpos.line) = true := by rfl) (hs : starEach (e :: es) X.env = (false, eval e X.env) :: starEach es X.env := by rfl) (hplain : (backTo cpos (starEach es X.env)).any (·.1) = false := by rfl) :
    PE X (.Call (.Attribute o "split" apos) (e :: es) [] cpos) (tSpl K to ta) := h ▸ pe_bm PySem.F.plainAttrs_str PySem.F.slot_str_split PySem.F.type_str_split mt_split ho ha hbase hfew hline hs hplain
theorem cIsiT (h : X.K = K := by rfl) : CallR X (.builtin "isinstance") (rIsiT K) := h ▸ call_isiT
theorem opInD (hu : X.A.units + 65 < cLine) (h : X.K = K := by rfl) : OpR X (compareOp .In) (rInD K) := h ▸ op_inD hu
theorem opNotInD (hu : X.A.units + 65 < cLine) (h : X.K = K := by rfl) : OpR X (compareOp .NotIn) (rNotInD K) := h ▸ op_notInD hu
theorem cReprD (hgu : X.A.guards = some []) (hu : X.A.units + 64 < cLine) (h : X.K = K := by rfl) : CallR X (.builtin "repr") (rReprD K) := h ▸ call_reprD hgu hu
end
/-! ### readings -/
section
variable {K : PySem.W.Frag} {σ : L2.St} {H : Hp} {Q : VK} {Qs : L2.St → Hp → Prop} {D : Ends} {te to tv : TE} {ta : TA} {a C dx : Addr} {fs : List (Str × V)} {f m : Str} {v y : V} {xs : List V} {sp : Sp} {dvs : List V} {E : XK} {z w : Int}
theorem i_fld {P : V → Prop} (h : H a = some (.ins C dx fs)) (c : Cls K C) (n : NoAttr K C f) (l : fs.lookup f = some v) (q : P v) : ∃ a' C dx fs v, V.ref a = .ref a' ∧ H a' = some (.ins C dx fs) ∧ Cls K C ∧ NoAttr K C f ∧ fs.lookup f = some v ∧ P v :=
  ⟨a, C, dx, fs, v, rfl, h, c, n, l, q⟩
theorem i_tfld (q : te σ H fun x H1 => ∃ a C dx fs v, x = .ref a ∧ H1 a = some (.ins C dx fs) ∧ Cls K C ∧ NoAttr K C f ∧ fs.lookup f = some v ∧ Q v H1) : tFld K te f σ H Q := q
theorem i_sfld (q : tv σ H fun y H1 => to σ H1 fun x H2 => ∃ a C dx fs, x = .ref a ∧ H2 a = some (.ins C dx fs) ∧ Cls K C ∧ NoAttr K C f ∧ fs.length < 1000 ∧ D.nx σ (upd H2 a (.ins C dx (putF f y fs)))) : sFld K to tv f D σ H := q
theorem i_put {P : Addr → Addr → Addr → List (Str × V) → Prop} (h : H a = some (.ins C dx fs)) (c : Cls K C) (n : NoAttr K C f) (l : fs.length < 1000) (q : P a C dx fs) :
    ∃ a' C dx fs, V.ref a = .ref a' ∧ H a' = some (.ins C dx fs) ∧ Cls K C ∧ NoAttr K C f ∧ fs.length < 1000 ∧ P a' C dx fs := ⟨a, C, dx, fs, rfl, h, c, n, l, q⟩
theorem i_meth (q : to σ H fun x H1 => ∃ a dx fs, x = .ref a ∧ H1 a = some (.ins C dx fs) ∧ fs.lookup m = none ∧ ta σ H1 fun vs H2 => sp (x :: (vs ++ dvs)) H2 Q E) : tMeth C m sp dvs E to ta σ H Q := q
theorem i_self {P : Prop} (h : H a = some (.ins C dx fs)) (l : fs.lookup m = none) (q : P) : ∃ a' dx fs, V.ref a = .ref a' ∧ H a' = some (.ins C dx fs) ∧ fs.lookup m = none ∧ P := ⟨a, dx, fs, rfl, h, l, q⟩
theorem i_make (q : ta σ H fun vs H1 => ∀ x dx, H1 x = none → H1 dx = none → dx ≠ x → sp (.ref x :: (vs ++ dvs)) (upd (upd H1 dx (.own x)) x (.ins C dx [])) (fun v H2 => v = .non ∧ Q (.ref x) H2) E) : tMake C sp dvs E ta σ H Q := q
theorem i_spl (q : to σ H fun x H1 => tyV K "str" x H1 ∧ ta σ H1 fun xs H2 => rSplit x xs H2 Q) : tSpl K to ta σ H Q := q
/-- the kind of a datum -/
def kindD : PyData → String
  | .none => "NoneType" | .bool _ => "bool" | .int _ => "int" | .str _ => "str" | .list _ => "list" | .tuple _ => "tuple" | .dict _ => "dict"
theorem At.ty {d : PyData} (K : PySem.W.Frag) (h : At H v d) : TyX K H v (.type (kindD d)) := by
  cases h with
  | non => exact .base .non
  | bl b => exact .base (.bl b)
  | int i => exact .base (.int i)
  | str l _ => exact .base (.str _)
  | lst e _ _ => exact .base (.lst e)
  | tup e _ _ => exact .base (.tup e)
  | dct e => exact .base (.dK e)
theorem i_isiD {d : PyData} {t : String} {b : Bool} (h : At H v d) (e : PySem.W.kitOne K (.type (kindD d)) (.type t) = some b) (q : Q (.bl b) H) : rIsi K [v, .ty t] H Q := ⟨_, _, _, _, b, rfl, .ty _, h.ty K, e, q⟩
theorem i_isiT2 {d : PyData} {t u : String} {b : Bool} {tp : Addr} (h : At H v d) (ht : H tp = some (.tup [.ty t, .ty u])) (e : PySem.W.kitAny K (.type (kindD d)) [.type t, .type u] = some b) (q : Q (.bl b) H) : rIsiT K [v, .ref tp] H Q :=
  ⟨v, tp, _, _, _, b, rfl, ht, .cons (.ty _) (.cons (.ty _) .nil), h.ty K, e, q⟩
end
theorem OK.never {P : Program} {w : World} {K : PySem.W.Frag} {mg : Str → Option Value} {base : Heap} {CX : CXT} {k : Nat} {x : Str} {st : Stmt} {ps : List Str} {dvs : List V} (D : DefD K mg x st ps dvs) : OK P w K mg base CX k x ps fun _ _ _ _ => False := by
  obtain ⟨f, fd, F, hm, hb, _⟩ := D
  exact ⟨f, fd, ⟨fun _ _ _ _ h => h.elim, fun _ _ _ _ _ _ _ _ _ _ _ _ _ h => h.elim⟩, hm, F.kp, hb⟩
theorem OK.never0 {P : Program} {w : World} {K : PySem.W.Frag} {mg : Str → Option Value} {base : Heap} {CX : CXT} {k : Nat} {x : Str} {st : Stmt} {ps : List Str} (D : DefIn K mg x st ps) : OK P w K mg base CX k x ps fun _ _ _ _ => False := by
  obtain ⟨f, fd, F, hm, hb⟩ := D
  exact ⟨f, fd, ⟨fun _ _ _ _ h => h.elim, fun _ _ _ _ _ _ _ _ _ _ _ _ _ h => h.elim⟩, hm, F.kp, hb⟩
theorem depth_mem : ∀ {ds : List PyData} {d : PyData}, d ∈ ds → d.depth ≤ PyData.depthAll ds
  | e :: r, d, h => by
    show d.depth ≤ max e.depth (PyData.depthAll r)
    rcases List.mem_cons.mp h with rfl | h
    · exact Nat.le_max_left _ _
    · exact Nat.le_trans (depth_mem h) (Nat.le_max_right _ _)
/-- lists as tuples, at all depths -/
def deepD : PyData → PyData
  | .list ds => .tuple (deepDs ds)
  | .tuple ds => .tuple (deepDs ds)
  | d => d
where deepDs : List PyData → List PyData
  | [] => []
  | d :: r => deepD d :: deepDs r
theorem deepDs_map : ∀ ds : List PyData, deepD.deepDs ds = ds.map deepD
  | [] => rfl
  | d :: r => by rw [List.map_cons, ← deepDs_map r]; rfl
/-! ### isinstance of a datum -/
def isSeqD : PyData → Bool
  | .list _ => true | .tuple _ => true | _ => false
def isTupD : PyData → Bool
  | .tuple _ => true | _ => false
def isStrD : PyData → Bool
  | .str _ => true | _ => false
def isIntD : PyData → Bool
  | .int _ => true | .bool _ => true | _ => false
def isBoolD : PyData → Bool
  | .bool _ => true | _ => false
section
variable {K : PySem.W.Frag} {H : Hp} {Q : VK} {v : V} {d : PyData} {tp : Addr}
theorem i_isiSeq (b : Bool) (h : At H v d) (ht : H tp = some (.tup [.ty "list", .ty "tuple"])) (e : isSeqD d = b) (q : Q (.bl b) H) : rIsiT K [v, .ref tp] H Q := by
  subst e
  refine i_isiT2 h ht ?_ q
  cases d <;> simp only [kindD, isSeqD] <;> first
    | exact kitAny_cons (b := true) (kit_ty (by decide +kernel)) (fun z => nomatch z) (fun _ => rfl)
    | exact kitAny_cons (b := false) (kit_ty (by decide +kernel)) (fun _ => kitAny_cons (b := true) (kit_ty (by decide +kernel)) (fun z => nomatch z) (fun _ => rfl)) (fun z => nomatch z)
    | exact kitAny_cons (b := false) (kit_ty (by decide +kernel)) (fun _ => kitAny_cons (b := false) (kit_ty (by decide +kernel)) (fun _ => rfl) (fun z => nomatch z)) (fun z => nomatch z)
theorem i_isiTup (b : Bool) (h : At H v d) (e : isTupD d = b) (q : Q (.bl b) H) : rIsi K [v, .ty "tuple"] H Q := by
  subst e
  refine i_isiD h (kit_ty ?_) q
  cases d <;> (simp only [kindD, isTupD] ; decide +kernel)
theorem i_isiStr (b : Bool) (h : At H v d) (e : isStrD d = b) (q : Q (.bl b) H) : rIsi K [v, .ty "str"] H Q := by
  subst e
  refine i_isiD h (kit_ty ?_) q
  cases d <;> (simp only [kindD, isStrD] ; decide +kernel)
theorem i_isiInt (b : Bool) (h : At H v d) (e : isIntD d = b) (q : Q (.bl b) H) : rIsi K [v, .ty "int"] H Q := by
  subst e
  refine i_isiD h (kit_ty ?_) q
  cases d <;> (simp only [kindD, isIntD] ; decide +kernel)
theorem i_isiBool (b : Bool) (h : At H v d) (e : isBoolD d = b) (q : Q (.bl b) H) : rIsi K [v, .ty "bool"] H Q := by
  subst e
  refine i_isiD h (kit_ty ?_) q
  cases d <;> (simp only [kindD, isBoolD] ; decide +kernel)
theorem At.tupled {ds : List PyData} (h : At H v (.tuple ds)) : ∃ a xs, v = .ref a ∧ H a = some (.tup xs) ∧ xs.length ≤ 10000 ∧ AtAll H xs ds := by
  cases h with
  | tup e l a => exact ⟨_, _, rfl, e, l, a⟩
theorem At.listed {ds : List PyData} (h : At H v (.list ds)) : ∃ a xs, v = .ref a ∧ H a = some (.lst xs) ∧ xs.length ≤ 10000 ∧ AtAll H xs ds := by
  cases h with
  | lst e l a => exact ⟨_, _, rfl, e, l, a⟩
theorem At.strd {x : Str} (h : At H v (.str x)) : v = .str x := by
  cases h; rfl
theorem At.strl {x : Str} (h : At H v (.str x)) : ∃ l : List Nat, v = S l ∧ x = ⟨l.toArray⟩ ∧ l.length ≤ 10000 := by
  cases h with
  | str l hl => exact ⟨l, rfl, rfl, hl⟩
theorem At.intd {i : Int} (h : At H v (.int i)) : v = .int i := by
  cases h; rfl
theorem At.mkTup {a : Addr} {xs : List V} {ds : List PyData} (e : H a = some (.tup xs)) (h : AtAll H xs ds) (l : ds.length ≤ 10000) : At H (.ref a) (.tuple ds) := .tup e (by rw [h.len]; exact l) h
theorem At.mkLst {a : Addr} {xs : List V} {ds : List PyData} (e : H a = some (.lst xs)) (h : AtAll H xs ds) (l : ds.length ≤ 10000) : At H (.ref a) (.list ds) := .lst e (by rw [h.len]; exact l) h
end
/-! ### loops over a text, over a tuple, behind i_for -/
section
variable {K : PySem.W.Frag} {σ : L2.St} {H : Hp} {D : Ends} {te : TE} {tb : TS} {g : TG} {a : Addr} {xs : List V} {z : List Nat}
theorem i_forS {A B : Prop} (Pv : Nat → L2.St → Hp → Prop) (h0 : Pv 0 σ H)
    (hs : ∀ i c σ' H', z[i]? = some c → Pv i σ' H' → g (S [c]) σ' H' fun σ2 H2 => tb { D with nx := Pv (i + 1), ct := Pv (i + 1), bk := D.nx } σ2 H2) (hd : ∀ σ' H', Pv z.length σ' H' → D.nx σ' H') :
    A ∨ B ∨ ∃ z', S z = .str z' ∧ LoopG g tb D σ (Its z') H := by
  have e : (⟨z.toArray⟩ : Str).cps.size = z.length := str_len z
  refine .inr (.inr ⟨_, rfl, for_it walk_str Pv h0 (fun _ _ _ _ _ => True.intro) (fun i x σ' H' H2 hi p y => ?_) (by rw [e]; exact hd)⟩)
  obtain ⟨rfl, c, hc, rfl⟩ := y
  exact hs i c σ' _ (by simpa using hc) p
theorem i_forT {A B : Prop} (hx : SqT K H a xs) (Pv : Nat → L2.St → Hp → Prop) (h0 : Pv 0 σ H) (hl : ∀ i σ' H', i ≤ xs.length → Pv i σ' H' → SqT K H' a xs)
    (hs : ∀ i x σ' H', xs[i]? = some x → Pv i σ' H' → g x σ' H' fun σ2 H2 => tb { D with nx := Pv (i + 1), ct := Pv (i + 1), bk := D.nx } σ2 H2) (hd : ∀ σ' H', Pv xs.length σ' H' → D.nx σ' H') :
    A ∨ (∃ a' xs', V.ref a = .ref a' ∧ SqT K H a' xs' ∧ LoopG g tb D σ (Itt K a') H) ∨ B := .inr (.inl ⟨a, xs, rfl, hx, for_tup Pv h0 hl hs hd⟩)
end
/-! ### calls whose defaults fill up; methods -/
section
variable {σ : L2.St} {H : Hp} {Q : VK} {E : XK} {tl : TA} {x y z u : V} {p1 : P1} {p2 : P2} {p3 : P3} {p4 : P4}
theorem i_callD {sp : Sp} {dvs : List V} (q : tl σ H fun vs H1 => sp (vs ++ dvs) H1 Q E) : tCall sp dvs E tl σ H Q := q
theorem i_spD2 (q : p2 x y H Q E) : sp2 p2 ([x] ++ [y]) H Q E := ⟨x, y, rfl, q⟩
theorem i_spM1 (q : p1 x H Q E) : sp1 p1 (x :: ([] ++ [])) H Q E := ⟨x, rfl, q⟩
theorem i_spM2 (q : p2 x y H Q E) : sp2 p2 (x :: ([y] ++ [])) H Q E := ⟨x, y, rfl, q⟩
theorem i_spM3 (q : p3 x y z H Q E) : sp3 p3 (x :: ([y, z] ++ [])) H Q E := ⟨x, y, z, rfl, q⟩
theorem i_spM4 (q : p4 x y z u H Q E) : sp4 p4 (x :: ([y, z, u] ++ [])) H Q E := ⟨x, y, z, u, rfl, q⟩
theorem i_spM3d (q : p3 x y z H Q E) : sp3 p3 (x :: ([y] ++ [z])) H Q E := ⟨x, y, z, rfl, q⟩
end
end Fg
/-! enumerate(a tuple) -/
namespace Fg
open PySem PySem.Spec PyProof.Rows L2
open AutoSeq1 (wpAny_loadPart')
theorem meets_enumT (l : Addr) (items : Array Value) (n : Nat) (dct : Option Addr) (sl : Array (Option Value)) :
    Meets (Builtin.«enumerate.__new__» ⟨[.type "enumerate", .ref l], []⟩) (fun _ R s => s.heap.get? l = some { cls := .type "tuple", dict := dct, data := .seq items n, slots := sl } ∧
      R (.ok (.ret (.ref (s.heap.push { cls := .type "tuple_iterator", data := .fields #[.ref l, .int 0 0] }).objs.size)))
        { s with heap := (s.heap.push { cls := .type "tuple_iterator", data := .fields #[.ref l, .int 0 0] }).push { cls := .type "enumerate", data := .fields #[.none, .bool false, .ref s.heap.objs.size, rawInt 0, .none, .none] } }) :=
  .of_wp fun prog w A R s h => by
    obtain ⟨hp, g, d, tk, os⟩ := s; obtain ⟨hl, h⟩ := h
    have hsub := sub_enumerate
    have hL : Heap.IsTuple (Shared.heap ⟨hp, g, d, tk, os⟩) l items := ⟨_, hl, rfl, n, rfl⟩
    wp_walk using wpAny_loadPart' hl
    refine wpAny_stack_any fun st => wpAny_pure ?_
    split
    · rename_i c _ _ _ _ _
      cases (c == Value.type "enumerate")
      · wp_walk using wpAny_loadPart' hl, wpAny_pyIter_tuple hL
        exact ⟨_, rfl, h⟩
      · wp_walk using wpAny_loadPart' hl, wpAny_pyIter_tuple hL
        exact ⟨_, rfl, h⟩
    · wp_walk using wpAny_loadPart' hl, wpAny_pyIter_tuple hL
      exact ⟨_, rfl, h⟩
section
variable {prog : Program} {w : World} {A : Around} {E : Value → Shared → Prop} {s : Shared}
theorem call_enumT {l : Addr} {items : Array Value} {Q : Value → Shared → Prop} (hL : s.heap.IsTuple l items)
    (h : ∀ h', IsEnum h' (s.heap.objs.size + 1) s.heap.objs.size 0 .none → h'.IsTupleIter s.heap.objs.size l 0 → h'.objs.size = s.heap.objs.size + 2 →
      (∀ b o, s.heap.get? b = some o → h'.get? b = some o) → Q (.ref (s.heap.objs.size + 1)) { s with heap := h' }) :
    wpAny (model prog w) A (call (.type "enumerate") [.ref l]) Q E s := by
  obtain ⟨⟨c, dct, dt, sl⟩, hl, hc, n, hd⟩ := hL
  replace hc : c = .type "tuple" := hc
  replace hd : dt = .seq items n := hd
  subst hc hd
  refine callType_new F.called_enumerate (by decide) (F.typeCall_enumerate_1 _) (F.newCall_enumerate_1 _) (fun obj => F.args_object_init_2 obj _) F.entry_enumerate_new
    (meets_enumT l items n dct sl) ⟨hl, ?_⟩
  have hz : (s.heap.push { cls := .type "tuple_iterator", data := .fields #[.ref l, .int 0 0] }).objs.size = s.heap.objs.size + 1 := Heap.size_push ..
  show _ ∧ _
  rw [hz]
  have he : IsEnum ((s.heap.push { cls := .type "tuple_iterator", data := .fields #[.ref l, .int 0 0] }).push
      { cls := .type "enumerate", data := .fields #[.none, .bool false, .ref s.heap.objs.size, rawInt 0, .none, .none] }) (s.heap.objs.size + 1) s.heap.objs.size 0 .none := by
    have := Heap.get?_push_size (s.heap.push { cls := .type "tuple_iterator", data := .fields #[.ref l, .int 0 0] })
      (o := { cls := .type "enumerate", data := .fields #[.none, .bool false, .ref s.heap.objs.size, rawInt 0, .none, .none] }) rfl
    rw [hz] at this; exact this
  refine ⟨⟨_, he, rfl⟩, h _ he ⟨_, Heap.get?_push_of_some _ (Heap.get?_push_size _ rfl), rfl, rfl⟩ (by rw [Heap.size_push, hz]) fun b o x => Heap.get?_push_of_some _ (Heap.get?_push_of_some _ x)⟩
end
/-- the tuple at a, each item in a new pair with its place -/
def Itet (K : PySem.W.Frag) (a : Addr) : It :=
  ⟨fun i H => ∃ (xs : List V) (x : V), SqT K H a xs ∧ xs[i]? = some x, fun i H v H' => ∃ T x, v = .ref T ∧ H T = none ∧ H' = upd H T (.tup [.int (i : Nat), x]) ∧ ∀ xs, SqT K H a xs → xs[i]? = some x, fun i H => ∃ xs : List V, SqT K H a xs ∧ i = xs.length⟩
theorem turn_enumT {P : Program} {w : World} {K : PySem.W.Frag} {elts : List Expr} {kk : Nat} {tpos : PySem.Pos} (a e it : Addr) :
    Turn P w K (.Tuple elts kk tpos) (Itet K a) [e, it] e (fun i h => (∃ old, IsEnum h e it ((i : Nat) : Int) old) ∧ h.IsTupleIter it a i ∧ e ≠ it) where
  mem := by simp
  obj := fun i h st b hb => by
    obtain ⟨⟨old, he⟩, ⟨o, ho, hc, hd⟩, _⟩ := st
    have e' : b = e ∨ b = it := by simpa using hb
    rcases e' with z | z
    · rw [z]; exact ⟨_, he, fun v q => nomatch q⟩
    · rw [z]; exact ⟨o, ho, fun v q => by rw [hd] at q; cases q⟩
  keep := fun i h h' st k => let ⟨⟨old, he⟩, hi, hne⟩ := st; ⟨⟨old, k e (by simp) _ he⟩, hi.at fun o q => k it (by simp) o q, hne⟩
  item := by
    intro X hP hw hK hc i pins s σ H E I hf st hg
    subst hP hw hK
    obtain ⟨⟨old, he⟩, hit, hne⟩ := st
    obtain ⟨xs, x, hq, hx⟩ := hg
    obtain ⟨its, rv, p, hz⟩ := I.tuple hq
    have pt : s.heap.IsTuple a its.toArray := p
    obtain ⟨u, hu, ru⟩ := rv.get hx
    have hel : e < s.heap.objs.size := Heap.lt_size he
    have hil : it < s.heap.objs.size := by obtain ⟨_, q, _⟩ := hit; exact Heap.lt_size q
    have hai : a ≠ it := fun z => by
      obtain ⟨o1, q1, c1, _⟩ := hit
      obtain ⟨o2, q2, c2, _⟩ := pt
      rw [z, q1] at q2
      cases q2
      rw [c1] at c2
      exact absurd c2 (by simp)
    have hae : e ≠ a := fun z => by
      obtain ⟨o2, q2, c2, _⟩ := pt
      rw [← z] at q2
      have q1 : s.heap.get? e = some _ := he
      rw [q1] at q2
      cases q2
      exact absurd c2 (by simp)
    have hsz : its.toArray.size = xs.length := by rw [List.size_toArray]; exact rv.length.symm
    have D := Draws.tuple (prog := X.prog) (w := X.w) (A := X.A.in1) (I.ok.hd hc) it a hai its.toArray
    refine wpAny_pyNext_enum_itemC D he ⟨hit, pt⟩ (by rw [hsz]; exact (List.getElem?_eq_some_iff.mp hx).1) hne (by simp [hne, hae]) fun y h' tk hy ho hS' hT hsz2 hk => ?_
    have yu : y = u := by
      have e1 : its.toArray[i]? = some u := by simpa using hu
      rw [e1] at hy
      exact (Option.some.inj hy).symm
    subst yu
    refine ⟨_, rfl, wpAny_letOwnedTupleGo_enum (s := { s with heap := h', toks := tk + 1 }) ho fun h2 he2 sb => ?_⟩
    have T2 : h2.get? s.heap.objs.size = some { cls := .type "tuple", data := .seq #[.int i tk, y] } := (sb.2 _ (Nat.ne_of_gt hel)).trans hT
    have new : ObjOk X.prog X.w (upd H s.heap.objs.size (.tup [.int (i : Nat), x])) h2 s.heap.objs.size (.tup [.int (i : Nat), x]) :=
      ⟨by show 2 ≤ sizeLine; decide, [.int i tk, y], .cons ⟨_, rfl⟩ (.cons ru .nil), ⟨_, T2, rfl, _, rfl⟩⟩
    have J : Inv X pins σ (upd H s.heap.objs.size (.tup [.int (i : Nat), x])) { s with heap := h2, toks := tk + 1 } :=
      I.turnedNew (ch := [e, it]) (fun b ob hb q => (sb.2 b (fun z => hb (by simp [z]))).trans (hk b ob (fun z => hb (by simp [z])) (fun z => hb (by simp [z])) q)) hf (Nat.le_refl _) new
    refine ⟨.ref s.heap.objs.size, _, J, rfl, ⟨_, x, rfl, I.hok.fresh (Nat.le_refl _), rfl, fun ys hy => by rw [I.tuple_inj hy hq]; exact hx⟩, ⟨⟨y, ?_⟩, ?_, hne⟩, fun b hb => ?_⟩
    · have e1 : ((i + 1 : Nat) : Int) = (i : Int) + 1 := by omega
      rw [e1]; exact he2
    · exact hS'.1.at fun o q => (sb.2 it (Ne.symm hne)).trans q
    · have hb' : b < s.heap.objs.size := by
        have e' : b = e ∨ b = it := by simpa using hb
        rcases e' with z | z
        · rw [z]; exact hel
        · rw [z]; exact hil
      rw [upd_ne (Nat.ne_of_lt hb')]
      exact (hf b hb).1
  done := by
    intro X hP hw hK hc i pins s σ H E I hf st hg
    subst hP hw hK
    obtain ⟨⟨old, he⟩, hit, hne⟩ := st
    obtain ⟨xs, hq, hx⟩ := hg
    obtain ⟨its, rv, p, hz⟩ := I.tuple hq
    have pt : s.heap.IsTuple a its.toArray := p
    have hai : a ≠ it := fun z => by
      obtain ⟨o1, q1, c1, _⟩ := hit
      obtain ⟨o2, q2, c2, _⟩ := pt
      rw [z, q1] at q2
      cases q2
      rw [c1] at c2
      exact absurd c2 (by simp)
    obtain ⟨f0, f1, f2, f3, f4, f5⟩ := hf it (by simp)
    have hsz : its.toArray.size = i := by rw [List.size_toArray, hx]; exact rv.length.symm
    have D := Draws.tuple (prog := X.prog) (w := X.w) (A := X.A.in1) (I.ok.hd hc) it a hai its.toArray
    exact wpAny_pyNext_enum_endD D he ⟨hsz ▸ hit, pt⟩ fun h' eb => ⟨rfl, I.turned (t' := s.toks) (fun b o hb q => eb b o hb q) f0 f1 f3 f4 f5⟩
  self := fun A i s Q E st h => let ⟨⟨_, he⟩, _⟩ := st; wpAny_pyIter_enum he h
def iEnumT (K : PySem.W.Frag) (ta : TA) : TI := fun σ H R => ta σ H fun vs H1 => ∃ a xs, vs = [.ref a] ∧ SqT K H1 a xs ∧ R (Itet K a) H1
theorem pi_enumT {X : Cx} {e : Expr} {ta : TA} {p pos tpos : PySem.Pos} {elts : List Expr} {kk : Nat} (hg : Gl X "enumerate") (hm : X.mg "enumerate" = none) (ha : PA X [e] ta) (hs : starEach [e] X.env = [(false, eval e X.env)] := by rfl) :
    PI X (.Tuple elts kk tpos) (.Call (.Name "enumerate" p) [e] [] pos) (iEnumT X.K ta) := by
  refine ⟨fun pins s σ H R I h => Call_ (ld_blt I hg hm boot_enumerate (PyProof.Rows.callWith_type1 (thn (ha.run pos pins s σ H _ I h) fun us s1 ⟨vs, H1, J, r1, q1⟩ => ?_) hs rfl))⟩
  have far : ∀ b ∈ [s1.heap.objs.size + 1, s1.heap.objs.size], s1.heap.objs.size ≤ b := fun b hb => by
    rcases List.mem_cons.mp hb with rfl | hb
    · exact Nat.le_succ _
    · rw [List.mem_singleton.mp hb]; exact Nat.le_refl _
  obtain ⟨a, xs, rfl, hq, q⟩ := q1
  cases r1 with
  | cons r rr =>
    cases rr
    cases r
    obtain ⟨its, rv, pl, hz⟩ := J.tuple hq
    refine call_enumT (show s1.heap.IsTuple a its.toArray from pl) fun h' hE hit hsz hk => wpAny_pyIter_enum hE ?_
    have J2 : Inv X pins σ H1 { s1 with heap := h' } := J.kept (t' := s1.toks) hk
    exact ⟨_, _, _, _, H1, rfl, J2, turn_enumT a (s1.heap.objs.size + 1) s1.heap.objs.size, ⟨⟨.none, hE⟩, hit, Nat.succ_ne_self _⟩, fun b hb => J.fpOk (far b hb) (J.hok.fresh (far b hb)), q⟩
theorem piEnumT (K : PySem.W.Frag) {X : Cx} {e : Expr} {ta : TA} {p pos tpos : PySem.Pos} {elts : List Expr} {kk : Nat} (hg : Gl X "enumerate") (hm : X.mg "enumerate" = none) (ha : PA X [e] ta) (h : X.K = K := by rfl) (hs : starEach [e] X.env = [(false, eval e X.env)] := by rfl) :
    PI X (.Tuple elts kk tpos) (.Call (.Name "enumerate" p) [e] [] pos) (iEnumT K ta) := h ▸ pi_enumT hg hm ha hs
/-- for i, x in enumerate(tuple) -/
theorem f_enumT {K : PySem.W.Frag} {σ : L2.St} {H : Hp} {D : Ends} {ta : TA} {tb : TS} {a : Addr} {xs : List V} {i1 i2 : Nat} (ha : ∀ R : List V → Hp → Prop, R [.ref a] H → ta σ H R) (hx : SqT K H a xs) (Pv : Nat → L2.St → Hp → Prop) (h0 : Pv 0 σ H)
    (hl : ∀ i σ' H', i ≤ xs.length → Pv i σ' H' → H' a = H a)
    (hs : ∀ i x σ' H' T, xs[i]? = some x → Pv i σ' H' → H' T = none → tb { D with nx := Pv (i + 1), ct := Pv (i + 1), bk := D.nx } ((σ'.set i1 (some (.int (i : Int)))).set i2 (some x)) (upd H' T (.tup [.int (i : Int), x]))) (hd : ∀ σ' H', Pv xs.length σ' H' → D.nx σ' H') :
    tFor (iEnumT K ta) (gTup K 2 (gCons (gName i1) (gCons (gName i2) gNil))) tb D σ H := by
  refine ha _ ⟨a, xs, rfl, hx, ?_⟩
  have sq : ∀ H', H' a = H a → SqT K H' a xs := fun H' e => by
    rcases hx with (h | ⟨o, h⟩) | h
    · exact .inl (.inl (e.trans h))
    · exact .inl (.inr ⟨o, e.trans h⟩)
    · exact .inr h
  have w : Walk (Itet K a) xs.length (fun H' => H' a = H a) (fun i Ha v Hb => ∃ T x, v = .ref T ∧ Ha T = none ∧ Hb = upd Ha T (.tup [.int (i : Nat), x]) ∧ xs[i]? = some x) := by
    refine ⟨fun i H' hi e => ⟨xs, xs[i], sq H' e, by simp [hi]⟩, fun H' e => ⟨xs, sq H' e, rfl⟩, fun i H' x H2 hi e y => ?_⟩
    obtain ⟨T, x, h1, h2, h3, h4⟩ := y
    exact ⟨T, x, h1, h2, h3, h4 xs (sq H' e)⟩
  refine for_it w Pv h0 (fun i σ' H' hi p => hl i σ' H' hi p) (fun i x σ' H' H2 hi p y => ?_) hd
  obtain ⟨T, c, rfl, nT, rfl, hc⟩ := y
  exact ⟨T, _, rfl, SqT.of upd_same, rfl, _, _, rfl, _, _, rfl, rfl, hs i c σ' H' T hc p nT⟩
end Fg
/-! replace, where the token of what is replaced is known: it was just cut out of a written text. -/
namespace Fg
open PySem PySem.Spec PyProof.Rows L2
theorem u65 {k : Nat} {A : Around} (r : Room k A) : A.units + 65 < cLine := by have := r.un; omega
section
variable {X : Cx} {pins : List (Addr × Obj)} {σ : L2.St} {H : Hp} {s : Shared}
/-- a store into a local name, the value kept in sight -/
theorem store_raw {M : Model} {A : Around} {E : Value → Shared → Prop} {i : Nat} {x : Str} {v : V} {u : Value} {Q : Unit → Shared → Prop} (I : Inv X pins σ H s) (hN : X.N.Nodup) (hi : X.N[i]? = some x) (hk : X.env.scope.names.lookup x = some .local) (r : RelV v u)
    (h : ∀ h' m, Inv X pins (σ.set i (some v)) H { s with heap := h', toks := s.toks + 1 } → h'.Ns X.env.locals m → m x = some u → Q () { s with heap := h', toks := s.toks + 1 }) : wpAny M A (storeName X.env x u) Q E s := by
  obtain ⟨m, hn, hl⟩ := id I.loc
  have hcls : (X.env.scope.kind == .class || (X.env.scope.kind == .module && X.env.locals != X.env.globals)) = false := by rw [I.ok.kind]; rfl
  have hiσ : i < σ.length := by rw [I.len]; exact (List.getElem?_eq_some_iff.mp hi).1
  have cne := I.cne
  have tracked : ∀ {a : Addr} {h' : Heap}, (∃ o, s.heap.get? a = some o ∧ H a = none) → Heap.SameBut a s.heap h' → HOk X.prog X.w H h' := fun {a h'} ha hs b ob e => by
    obtain ⟨_, _, hfree⟩ := ha
    refine (I.hok b ob e).stay (fun c w' hc q => (hs.2 c ?_).trans q) (fun _ q => q) fun _ _ q => q
    rintro rfl
    rcases hc with rfl | hc
    · rw [hfree] at e; cases e
    · rw [hfree] at hc; cases hc
  refine wpAny_storeName_local hk hn (fun h' hn' hs => ?_) hcls
  obtain ⟨oL, _, _, hoL, _⟩ := id hn
  refine h h' _ ⟨I.ok, I.os, I.bare, ⟨fun b o e n hb hx => ?_, fun b o e n hb hx => ?_, I.base.free, fun b o e hx => ?_, I.base.tups, I.base.frzs, I.base.tbls⟩, ⟨_, hn', fun j y v' e1 e2 e3 => ?_⟩, fun y c e => ?_, I.free, I.freeC, fun p hp => ?_, tracked ⟨oL, hoL, I.free⟩ hs, by simpa using I.len⟩ hn' (by simp)
  · exact (hs.2 b (Nat.ne_of_lt (Nat.lt_of_lt_of_le (Heap.lt_size e) I.ok.above))).trans (I.base.keep b o e n hb hx)
  · obtain ⟨sl, e1⟩ := I.base.slot b o e n hb hx
    exact ⟨sl, (hs.2 b (Nat.ne_of_lt (Nat.lt_of_lt_of_le (Heap.lt_size e) I.ok.above))).trans e1⟩
  · obtain ⟨o', e1⟩ := I.base.there b o e hx
    exact ⟨o', (hs.2 b (Nat.ne_of_lt (Nat.lt_of_lt_of_le (Heap.lt_size e) I.ok.above))).trans e1⟩
  · by_cases hj : j = i
    · subst hj
      rw [hi] at e1; cases e1
      rw [List.getElem?_set_self hiσ] at e2
      cases e2
      exact ⟨u, r, .inl ⟨hk, by simp⟩⟩
    · rw [List.getElem?_set_ne (Ne.symm hj)] at e2
      obtain ⟨u', r', q⟩ := hl j y v' e1 e2 e3
      refine ⟨u', r', ?_⟩
      rcases q with ⟨k, e⟩ | ⟨k, c, e, z⟩
      · refine .inl ⟨k, ?_⟩
        have : y ≠ x := fun e => hj (nodup_ix hN e1 (e ▸ hi))
        simp [this, e]
      · exact .inr ⟨k, c, e, z.sameBut hs (cne y c e)⟩
  · obtain ⟨w', z⟩ := I.cell y c e
    exact ⟨w', z.sameBut hs (cne y c e)⟩
  · obtain ⟨e, n, ne, nf, d⟩ := I.pin p hp
    exact ⟨(hs.2 p.1 ne).trans e, n, ne, nf, d⟩
end
/-- x = 'a'[e1]; y = 'b'.replace(x, 'c')[e2] -/
def tLitRep (i j : Nat) (a b c : Str) (t1 t2 : TE) (u : TS) : TS := fun D σ H => t1 σ H fun z1 H1 => ∃ (k1 : Int) (g1 : Nat), z1 = .int k1 ∧ a.length ≤ sizeLine ∧ atI a.cps.toList k1 = some g1 ∧ ((⟨#[g1]⟩ : Str) == c) = false ∧
  b.length + (b.length + 1) * c.length ≤ 16777216 ∧ t2 (σ.set i (some (.str ⟨#[g1]⟩))) H1 fun z2 H2 => ∃ (k2 : Int) (g2 : Nat), z2 = .int k2 ∧ (Txt.replace b ⟨#[g1]⟩ c).length ≤ sizeLine ∧
    atI (Txt.replace b ⟨#[g1]⟩ c).cps.toList k2 = some g2 ∧ u D ((σ.set i (some (.str ⟨#[g1]⟩))).set j (some (.str ⟨#[g2]⟩))) H2
theorem item_str_raw {prog : Program} {w : World} {A : Around} {E : Value → Shared → Prop} {s : Shared} {value slice : Expr} {z : Str} {i : Int} {c : Nat} {t u : Tok} {Q : Value → Shared → Prop} (hz : z.length ≤ sizeLine) (he : atI z.cps.toList i = some c) (hs : PlainIx slice)
    (h : Q (.str ⟨#[c]⟩ s.toks) { s with toks := s.toks + 1 }) : wpAny (model prog w) A (subscriptTail value slice (.str z t) (.int i u)) Q E s := by
  obtain ⟨j, h1, h2, h3, h4, h5⟩ := atI_get he
  have hl : z.cps.toList.length = z.length := by simp [Str.length]
  rw [hl] at h1 h4 h5
  have hn := line63
  exact tail_any (typeIs_str s z t) slot_str_getitem.lookup (P.getItem_str (c := c) (by
    have e1 : decide (i < -(2 ^ 63 : Int)) = false := decide_eq_false (by omega)
    have e2 : decide (i ≥ 2 ^ 63) = false := decide_eq_false (by omega)
    rw [e1, e2, Bool.or_false]) (by rw [h1]; simpa using h2) h) (hs _ _)
theorem pss_litrep {X : Cx} {i j : Nat} {x y a b c : Str} {e1 e2 : Expr} {t1 t2 : TE} {rest : List Stmt} {u : TS} {k0 k1 k2 : Nat} {p1 p2 p3 p4 q1 q2 q3 q4 q5 q6 q7 q8 : PySem.Pos} (hN : X.N.Nodup) (hi : X.N[i]? = some x) (hj : X.N[j]? = some y)
    (hx : X.env.scope.names.lookup x = some .local) (hy : Loc X.env.scope y) (h1 : PE X e1 t1) (h2 : PE X e2 t2) (pl1 : PlainIx e1) (pl2 : PlainIx e2) (hr : PSs X rest u)
    (hs1 : swapsWith (.Subscript (.Constant (.str a) k0 p2) e1 p3) (some (.Name x p1)) p4.line X.env = pure false := by rfl)
    (hs2 : swapsWith (.Subscript (.Call (.Attribute (.Constant (.str b) k1 q2) "replace" q3) [.Name x q4, .Constant (.str c) k2 q5] [] q6) e2 q7) (some (.Name y q1)) q8.line X.env = pure false := by rfl)
    (hf : X.fn y = true ∨ X.env.scope.names.lookup y = some .local := by first | exact .inl rfl | exact .inr rfl | assumption)
    (hst : starEach [.Name x q4, .Constant (.str c) k2 q5] X.env = [(false, eval (.Name x q4) X.env), (false, eval (.Constant (.str c) k2 q5) X.env)] := by rfl)
    (hbase : attributeBase (.Constant (.str b) k1 q2) "replace" X.env (eval (.Constant (.str b) k1 q2) X.env) = eval (.Constant (.str b) k1 q2) X.env := by rfl) (hline : (q3.endLine == q6.line) = true := by rfl)
    (hd : (x == ("__debug__" : Str)) = false := by decide) :
    PSs X (.Assign [.Name x p1] (.Subscript (.Constant (.str a) k0 p2) e1 p3) p4 ::
      .Assign [.Name y q1] (.Subscript (.Call (.Attribute (.Constant (.str b) k1 q2) "replace" q3) [.Name x q4, .Constant (.str c) k2 q5] [] q6) e2 q7) q8 :: rest) (tLitRep i j a b c t1 t2 u) := by
  refine ⟨fun pins s σ H D I h => ?_⟩
  refine wpAny_execs_cons (wpAny_Assign_Name (Subscript_ (Calls.Constant_str ?_)) hs1)
  refine wpAny_mono (PySem.wpAny_toks (h1.run pins _ σ H _ (I.tok (s.toks + 1)) h)) (fun v1 s1 q => ?_) fun _ _ z => z.2
  obtain ⟨hk1, z1, H1, I1, r1, n1, g1, rfl, hz1, he1, hne, hb, q⟩ := q
  obtain ⟨w1, rfl⟩ := r1
  have hk1' : s.toks + 1 ≤ s1.toks := hk1
  refine item_str_raw hz1 he1 pl1 ?_
  refine store_raw (v := .str ⟨#[g1]⟩) (I1.tok (s1.toks + 1)) hN hi hx ⟨_, rfl⟩ fun h' m I2 hn hm => ?_
  refine wpAny_execs_cons (wpAny_Assign_Name (Subscript_ ?_) hs2)
  refine PySem.Call_method2 hbase hst hline (Calls.Constant_str ?_)
  refine ⟨"str", _, F.plainAttrs_str, F.slot_str_replace, F.type_str_replace, typeIs_str _ _ _, (fun _ e => nomatch e), Calls.callWith_builtin rfl (Calls.evalArgs_plain (Calls.spliced_cons ?_))⟩
  refine wpAny_Name (wpAny_loadName_local I.ok.kind hx hn hm ?_) hd
  refine Calls.spliced_cons (Calls.Constant_str (Calls.spliced_nil ?_))
  refine PySem.SC.replace (by show s1.toks ≠ 0; omega) (by show s1.toks + 1 + 1 + 1 ≠ 0; omega) (by show s1.toks ≠ s1.toks + 1 + 1 + 1; omega) hne hb fun t' tk => ?_
  refine thn (h2.run pins _ _ H1 _ (I2.tok tk) q) fun v2 s2 ⟨z2, H2, I3, r2, n2, g2, e2', hz2, he2, q2⟩ => ?_
  subst e2'
  obtain ⟨w2, rfl⟩ := r2
  refine item_str_raw hz2 he2 pl2 ?_
  exact store_ok (v := .str ⟨#[g2]⟩) (I3.tok (s2.toks + 1)) hN hj hy ⟨_, rfl⟩ (fun s3 I4 => hr.run pins s3 _ H2 D I4 q2) hf
/-- a test on x == 6 gives out a token: behind it the body may ask for one -/
theorem ps_ifK {X : Cx} {e : Expr} {te : TE} {n : Int} {k : Nat} {a b : List Stmt} {t u : TS} {p1 p2 pos : PySem.Pos} {r : R2} (ho : OpR X (compareOp .Eq) r) (he : PE X e te) (ha : PSsT X a t) (hb : PSs X b u) :
    PS X (.If (.Compare e [.Eq] [.Constant (.int n) k p1] p2) a b pos) (tIfS (tTest (tOp r te (tC (.int n)))) t u) := by
  refine ⟨fun pins s σ H D I h => ?_⟩
  refine wpAny_If ?_
  have h' := (pt_cmpR (X := X) (pos := p2) ho he (pe_int (i := n) (j := k) (pos := p1)) (nomark _))
  refine wpAny_isTrue_Compare1 (thn (he.run pins s σ H _ I h) fun v s1 ⟨x, H1, I1, r1, q1⟩ => wpAny_Constant_int ?_) (nomark _)
  refine wpAny_mono (PySem.wpAny_toks (ho pins _ σ H1 x (.int n) v _ _ (I1.tok (s1.toks + 1)) r1 ⟨_, rfl⟩ q1)) (fun c s3 q => ?_) fun _ _ z => z.2
  obtain ⟨hk, z, H3, I3, r3, kb, e, q3⟩ := q
  subst e
  cases r3
  have hk' : s1.toks + 1 ≤ s3.toks := hk
  refine wpAny_truthy_bool ?_
  cases kb with
  | true => exact ha pins s3 σ H3 D (by omega) I3 q3
  | false => exact hb.run pins s3 σ H3 D I3 q3
/-! ### str of a text or of a small number; list(..) -/
def rStrP : RC := orC (fun xs H Q => ∃ i : Int, xs = [.int i] ∧ i.natAbs.log2 < 1920 ∧ Q (.str (toString i)) H) fun xs H Q => ∃ a, xs = [.str a] ∧ Q (.str a) H
theorem call_strP {X : Cx} : CallR X (.type "str") rStrP := orC_call call_str_int SkE.call_str_str
def rListP (K : PySem.W.Frag) : RC := fun xs H Q => ∃ p ys, xs = [.ref p] ∧ (SqL K H p ys ∨ SqT K H p ys) ∧ ∀ l, H l = none → Q (.ref l) (upd H l (.lst ys))
theorem cListP (K : PySem.W.Frag) {X : Cx} (h : X.K = K := by rfl) : CallR X (.type "list") (rListP K) := h ▸ call_list_of
/-- e.upper() -/
def tUpp (K : PySem.W.Frag) (to : TE) : TE := tBM0 K "str" (fun x xs H Q => ∃ a, x = .str a ∧ xs = [] ∧ a.length ≤ 5592405 ∧ Q (.str (Txt.upper a)) H) to
theorem peUpper (K : PySem.W.Frag) {X : Cx} {o : Expr} {to : TE} {apos cpos : PySem.Pos} (ho : PE X o to) (h : X.K = K := by rfl) (hbase : attributeBase o "upper" X.env (eval o X.env) = eval o X.env := by rfl) (hline : (apos.endLine == cpos.line) = true := by rfl) :
    PE X (.Call (.Attribute o "upper" apos) [] [] cpos) (tUpp K to) := h ▸ pe_bm0 PySem.F.plainAttrs_str PySem.F.slot_str_upper PySem.F.type_str_upper mt_upper ho hbase hline
end Fg
/-! law's own promise, where no display stands around -/
namespace Fg
open PySem PySem.Spec PyProof.Rows L2
theorem FnGOk.mk {P : Program} {w : World} {K : PySem.W.Frag} {mg : Str → Option Value} {base : Heap} {x : Str} {st : Stmt} {N ps : List Str} {k : Nat} {sp : Sp} {f : Addr} {fd : FuncData} (F : Fun K x x st f fd) (S : FnScope N ps (defScope st)) (len : ∀ vs H Q E, sp vs H Q E → vs.length = ps.length)
    (body : ∀ (cdv : Value) (A : Around) (outer : List Env) (s : Shared) (H : Hp) (vs : List V) (Q : VK) (E : XK), A.guards = some [] → Room k (A.deeper (envOfC x (defScope st) s.heap.objs.size f cdv)) → sp vs H Q E →
      ∃ t, PSs (cxOf CX0 P w K mg base N x (defScope st) f cdv A outer s H E).nox (defBody st) t ∧ t { nx := fun _ H' => Q .non H', rt := Q } (start N vs) H) : GOk P w K mg base CX0 (k + 1) f fd ps sp :=
  gok_mk F S len fun cdv A outer s H vs Q E hg hr h => let ⟨t, z, e⟩ := body cdv A outer s H vs Q E hg hr h; ⟨t, z.nox, e⟩
/-- tuples put together: what stands behind, by data -/
theorem i_catT {K : PySem.W.Frag} {H : Hp} {Q : VK} {a b : Addr} {xs ys : List V} (h1 : H a = some (.tup xs)) (h2 : H b = some (.tup ys)) (hz : xs.length + ys.length ≤ 1000)
    (q : ∀ r H', Same H H' → H' r = some (.tup (xs ++ ys)) → ((r = a ∨ r = b) ∧ H' = H ∨ H r = none ∧ H' = upd H r (.tup (xs ++ ys))) → Q (.ref r) H') : addP K (.ref a) (.ref b) H Q := by
  refine .inr (.inr (.inr ⟨a, b, xs, ys, rfl, rfl, .inl (.inl h1), .inl (.inl h2), Nat.le_trans hz (by decide), fun e => ?_, fun _ e => ?_, fun _ _ p np => ?_⟩))
  · subst e
    exact q b H (Same.refl H) h2 (.inl ⟨.inr rfl, rfl⟩)
  · subst e
    exact q a H (Same.refl H) (by rw [List.append_nil]; exact h1) (.inl ⟨.inl rfl, rfl⟩)
  · exact q p _ (same_upd np) upd_same (.inr ⟨np, rfl⟩)
/-- a part of a tuple -/
theorem i_slTup {K : PySem.W.Frag} {H : Hp} {Q : VK} {a : Addr} {xs : List V} {lo hi : Option Int} (h : H a = some (.tup xs))
    (q : ∀ r H', Same H H' → H' r = some (.tup (cutV xs lo hi)) → (r = a ∧ H' = H ∨ H r = none ∧ H' = upd H r (.tup (cutV xs lo hi))) → Q (.ref r) H') : slP K (.ref a) lo hi H Q := by
  refine .inr (.inl ⟨a, xs, rfl, .inl (.inl h), fun z => ?_, fun _ p np => ?_⟩)
  · have e : cutV xs lo hi = xs := by
      unfold cutV
      rw [z.1, z.2, List.drop_zero, Nat.sub_zero, List.take_length]
    exact q a H (Same.refl H) (by rw [e]; exact h) (.inl ⟨rfl, rfl⟩)
  · exact q p _ (same_upd np) upd_same (.inr ⟨np, rfl⟩)
end Fg
/-! repr of data: how long it is; of any value. -/
namespace Fg
open PySem PySem.Spec PyProof.Rows L2
/-- it can be shown, and is not long: at most m signs and parts -/
def rpB (m : Nat) (d : PyData) : Bool := d.showable && (d.leavesShort 400 && decide (d.bulk ≤ m))
structure Rp (m : Nat) (d : PyData) : Prop where
  sh : d.showable = true
  lv : d.leavesShort 400 = true
  bk : d.bulk ≤ m
theorem rp_of {m : Nat} {d : PyData} (h : rpB m d = true) : Rp m d := by
  unfold rpB at h
  rw [Bool.and_eq_true, Bool.and_eq_true] at h
  exact ⟨h.1, h.2.1, of_decide_eq_true h.2.2⟩
theorem Rp.fits {m : Nat} {d : PyData} (h : Rp m d) (hm : m ≤ 20000) : d.shown.length ≤ sizeLine := by
  have h1 := PyData.shown_le_bulk 400 (by decide) d h.lv
  have h2 : (400 + 2) * d.bulk ≤ 402 * 20000 := Nat.mul_le_mul_left _ (Nat.le_trans h.bk hm)
  have h3 : 402 * 20000 + 400 ≤ sizeLine := by decide
  omega
theorem Rp.mono {m n : Nat} {d : PyData} (h : Rp m d) (k : m ≤ n) : Rp n d := ⟨h.sh, h.lv, Nat.le_trans h.bk k⟩
theorem rp_all {m : Nat} : ∀ {ds : List PyData}, (∀ d ∈ ds, Rp m d) → PyData.showableAll ds = true ∧ PyData.leavesShortAll 400 ds = true ∧ PyData.bulkAll ds ≤ (m + 1) * ds.length
  | [], _ => ⟨rfl, rfl, by simp only [PyData.bulkAll]; exact Nat.zero_le _⟩
  | d :: r, h => by
    have h1 := h d (List.mem_cons_self ..)
    obtain ⟨a, b, c⟩ := rp_all (ds := r) fun x hx => h x (List.mem_cons_of_mem _ hx)
    refine ⟨?_, ?_, ?_⟩
    · simp only [PyData.showableAll, h1.sh, a, Bool.and_self]
    · simp only [PyData.leavesShortAll, h1.lv, b, Bool.and_self]
    · have := h1.bk
      simp only [PyData.bulkAll, List.length_cons, Nat.mul_add, Nat.mul_one]
      omega
theorem Rp.list {m : Nat} {ds : List PyData} (h : ∀ d ∈ ds, Rp m d) : Rp ((m + 1) * ds.length) (.list ds) := by
  obtain ⟨a, b, c⟩ := rp_all h
  exact ⟨by simp only [PyData.showable]; exact a, by simp only [PyData.leavesShort]; exact b, by simp only [PyData.bulk]; exact c⟩
theorem Rp.tuple {m : Nat} {ds : List PyData} (h : ∀ d ∈ ds, Rp m d) : Rp ((m + 1) * ds.length) (.tuple ds) := by
  obtain ⟨a, b, c⟩ := rp_all h
  exact ⟨by simp only [PyData.showable]; exact a, by simp only [PyData.leavesShort]; exact b, by simp only [PyData.bulk]; exact c⟩
theorem Rp.str {m : Nat} {l : List Nat} (h : l.length ≤ m) (hc : ∀ c ∈ l, c < 16 ^ 8) : Rp m (dS l) := by
  refine ⟨by simp only [PyData.showable], ?_, ?_⟩
  · simp only [PyData.leavesShort, List.all_eq_true, decide_eq_true_eq]
    intro c hm
    exact hc c (by simpa using hm)
  · simp only [PyData.bulk]
    have : (⟨l.toArray⟩ : Str).cps.size = l.length := by simp
    omega
theorem Rp.non {m : Nat} : Rp m .none := ⟨rfl, rfl, Nat.zero_le _⟩
theorem Rp.bool {m : Nat} (b : Bool) : Rp m (.bool b) := ⟨rfl, rfl, Nat.zero_le _⟩
theorem Rp.int {m : Nat} {i : Int} (h : i.natAbs < 10 ^ 40) : Rp m (.int i) := by
  refine ⟨?_, ?_, Nat.zero_le _⟩
  · simp only [PyData.showable]
    refine decide_eq_true ?_
    rcases Nat.eq_zero_or_pos i.natAbs with z | z
    · rw [z]; decide
    · refine (Nat.log2_lt (by omega)).mpr (Nat.lt_trans h ?_)
      exact (by decide +kernel : 10 ^ 40 < 2 ^ 1920)
  · have := int_text_length_le10 (a := i) (k := 40) (by decide) h
    simp only [PyData.leavesShort]
    refine decide_eq_true ?_
    show (PyData.shown (.int i)).length ≤ 400
    have e : (PyData.shown (.int i)).length = (toString i).length := by
      show (Str.ofString (toString i)).length = _
      rw [PySem.ofString_length]
    omega
/-- repr of any value that is data -/
def rReprA (K : PySem.W.Frag) : RC := fun xs H Q => ∃ (v : V) (d : PyData), xs = [v] ∧ Dp K H v d ∧ d.showable = true ∧ d.hasDict = false ∧ d.depth ≤ 60 ∧ d.shown.length ≤ sizeLine ∧ Q (.str d.shown) H
theorem cReprA (K : PySem.W.Frag) {X : Cx} (hgu : X.A.guards = some []) (hu : X.A.units + 64 < cLine) (hK : X.K = K := by rfl) : CallR X (.builtin "repr") (rReprA K) := by
  subst hK
  intro pins s σ H xs us Q I r h
  obtain ⟨v, d, rfl, hd, h1, h2, h3, h4, q⟩ := h
  cases r with
  | cons ru rn =>
    cases rn
    cases v with
    | ref a =>
      cases (show _ = Value.ref a from ru)
      obtain ⟨as, rd⟩ := Dp.reads I d (.ref a) (.ref a) hd rfl
      exact repr_of_reads' rd h1 (PyData.noDict_hsm h2) hgu (by omega) (fun b o e => e)
        (fun h' u tk hk => ⟨.str d.shown, H, I.kept (t' := tk) hk, ⟨u, rfl⟩, q⟩) h4
    | non =>
      cases hd
      cases (show _ = Value.none from ru)
      exact PySem.P.repr_of_none ⟨.str (PyData.shown .none), H, I.tok (s.toks + 1), ⟨_, rfl⟩, q⟩
    | bl b =>
      cases hd
      cases (show _ = Value.bool b from ru)
      exact PySem.P.repr_of_bool ⟨.str (PyData.shown (.bool b)), H, I.tok (s.toks + 1), ⟨_, rfl⟩, q⟩
    | int i =>
      cases hd
      obtain ⟨t, rfl⟩ := (show ∃ t, _ = Value.int i t from ru)
      exact PySem.P.repr_of_int (of_decide_eq_true (by simpa only [PyData.showable] using h1)) ⟨.str (PyData.shown (.int i)), H, I.tok (s.toks + 1), ⟨_, rfl⟩, q⟩
    | str x =>
      cases hd
      obtain ⟨t, rfl⟩ := (show ∃ t, _ = Value.str x t from ru)
      exact PySem.P.repr_of_str ⟨.str (PyData.shown (.str x)), H, I.tok (s.toks + 1), ⟨_, rfl⟩, q⟩ h4
    | _ => cases hd
section
variable {K : PySem.W.Frag} {H : Hp} {Q : VK} {v : V} {d : PyData} {m : Nat}
theorem i_reprA (h : At H v d) (r : Rp m d) (hm : m ≤ 20000) (nd : d.hasDict = false) (dp : d.depth ≤ 60) (q : Q (.str d.shown) H) : rReprA K [v] H Q := ⟨v, d, rfl, h.dp K d v nd, r.sh, nd, dp, r.fits hm, q⟩
theorem i_reprD {a : Addr} (h : At H (.ref a) d) (r : Rp m d) (hm : m ≤ 20000) (nd : d.hasDict = false) (dp : d.depth ≤ 60) (q : Q (.str d.shown) H) : rReprD K [.ref a] H Q := ⟨a, d, rfl, h.dp K d _ nd, r.sh, nd, dp, r.fits hm, q⟩
end
end Fg
/-! The reader of rhythm texts, in plain Lean. -/
namespace Fg
open PySem PySem.Spec PyProof.Rows L2
abbrev SG : List Nat := [46, 103, 114, 119]
abbrev DG : List Nat := [48, 49, 50, 51, 52, 53, 54, 55, 56, 57]
def Row (l : List Nat) : Prop := ∀ c ∈ l, c ∈ SG
def rpt (n : Nat) (l : List Nat) : List Nat := (List.replicate n l).flatten
theorem rpt_len (n : Nat) (l : List Nat) : (rpt n l).length = n * l.length := by simp [rpt, List.length_flatten]
theorem rpt_succ (k : Nat) (t : List Nat) : rpt (k + 1) t = t ++ rpt k t := by unfold rpt; rw [List.replicate_succ, List.flatten_cons]
theorem rpt_get : ∀ (k : Nat) (t : List Nat) (j : Nat), j < k * t.length → (rpt k t)[j]? = t[j % t.length]?
  | 0, t, j, h => by rw [Nat.zero_mul] at h; omega
  | k + 1, t, j, h => by
    rw [rpt_succ]
    by_cases hj : j < t.length
    · rw [List.getElem?_append_left hj, Nat.mod_eq_of_lt hj]
    · rw [List.getElem?_append_right (by omega), rpt_get k t (j - t.length) (by rw [Nat.succ_mul] at h; omega)]
      rw [← Nat.mod_eq_sub_mod (by omega)]
/-- the first lit one -/
def firstLit : List Nat → Nat
  | [] => 46
  | c :: r => if c = 46 then firstLit r else c
/-- a stretch as the reader has it -/
def Sv (n : Nat) (r : List Nat) : HO := .tup [.int (n : Int), if n ≤ 24 then S r else .non]
abbrev Stv := Nat × List Nat
def lcmL (ps : List Stv) : Nat := ps.foldl (fun b p => Nat.lcm b p.1) 1
theorem lcmL_snoc (ps : List Stv) (p : Stv) : lcmL (ps ++ [p]) = Nat.lcm (lcmL ps) p.1 := by
  unfold lcmL
  rw [List.foldl_append]
  rfl
def showN (ps : List Stv) (n : Nat) : List Nat := (List.range n).map fun i => firstLit (ps.map fun p => (rpt (n / p.1) p.2).getD i 0)
theorem showN_len (ps : List Stv) (n : Nat) : (showN ps n).length = n := by simp [showN]
theorem dvd_fold (ps : List Stv) : ∀ b, (b ∣ ps.foldl (fun b p => Nat.lcm b p.1) b) ∧ ∀ p ∈ ps, p.1 ∣ ps.foldl (fun b p => Nat.lcm b p.1) b := by
  induction ps with
  | nil => exact fun b => ⟨Nat.dvd_refl _, by simp⟩
  | cons q r ih =>
    intro b
    obtain ⟨h1, h2⟩ := ih (Nat.lcm b q.1)
    refine ⟨Nat.dvd_trans (Nat.dvd_lcm_left _ _) h1, fun p hp => ?_⟩
    rcases List.mem_cons.mp hp with rfl | hp
    · exact Nat.dvd_trans (Nat.dvd_lcm_right _ _) h1
    · exact h2 p hp
theorem dvd_lcmL {ps : List Stv} {p : Stv} (h : p ∈ ps) : p.1 ∣ lcmL ps := (dvd_fold ps 1).2 p h
theorem fold_pos (ps : List Stv) (h : ∀ p ∈ ps, 1 ≤ p.1) : ∀ b, 1 ≤ b → 1 ≤ ps.foldl (fun b p => Nat.lcm b p.1) b := by
  induction ps with
  | nil => exact fun b hb => hb
  | cons q r ih => exact fun b hb => ih (fun p hp => h p (List.mem_cons_of_mem _ hp)) _ (Nat.lcm_pos hb (h q List.mem_cons_self))
theorem lcmL_pos {ps : List Stv} (h : ∀ p ∈ ps, 1 ≤ p.1) : 1 ≤ lcmL ps := fold_pos ps h 1 (Nat.le_refl _)
/-! ### digits -/
def run (z : List Nat) (a : Nat) : List Nat := (z.drop a).takeWhile fun c => decide (c ∈ DG)
def bd (z : List Nat) (a : Nat) : Nat := a + (run z a).length
theorem run_step {z : List Nat} {m c : Nat} (h : z[m]? = some c) (hc : c ∈ DG) : run z m = c :: run z (m + 1) := by
  obtain ⟨hl, rfl⟩ := List.getElem?_eq_some_iff.mp h
  unfold run
  rw [List.drop_eq_getElem_cons hl, List.takeWhile_cons_of_pos (by simpa using hc)]
theorem run_stop {z : List Nat} {m : Nat} (h : ∀ c, z[m]? = some c → c ∉ DG) : run z m = [] := by
  unfold run
  by_cases hl : m < z.length
  · rw [List.drop_eq_getElem_cons hl, List.takeWhile_cons_of_neg (by simpa using h _ (List.getElem?_eq_getElem hl))]
  · rw [List.drop_of_length_le (by omega)]
    rfl
theorem bd_step {z : List Nat} {m c : Nat} (h : z[m]? = some c) (hc : c ∈ DG) : bd z (m + 1) = bd z m := by
  unfold bd
  rw [run_step h hc, List.length_cons]
  omega
theorem bd_stop {z : List Nat} {m : Nat} (h : ∀ c, z[m]? = some c → c ∉ DG) : bd z m = m := by
  unfold bd
  rw [run_stop h]
  rfl
theorem bd_le {z : List Nat} {a : Nat} (h : a ≤ z.length) : bd z a ≤ z.length := by
  unfold bd run
  have := (List.takeWhile_prefix (fun c => decide (c ∈ DG)) (l := z.drop a)).length_le
  rw [List.length_drop] at this
  omega
theorem bd_ge (z : List Nat) (a : Nat) : a ≤ bd z a := Nat.le_add_right _ _
theorem bd_eq {z : List Nat} {a : Nat} : bd z a = a ↔ run z a = [] := by
  unfold bd
  constructor
  · intro h
    exact List.length_eq_zero_iff.mp (by omega)
  · intro h
    rw [h]; rfl
theorem run_digits (z : List Nat) (a : Nat) : ∀ c ∈ run z a, c ∈ DG := fun c hc => by
  unfold run at hc
  generalize z.drop a = l at hc
  induction l with
  | nil => simp at hc
  | cons x r ih =>
    by_cases h : x ∈ DG
    · rw [List.takeWhile_cons_of_pos (by simpa using h)] at hc
      rcases List.mem_cons.mp hc with rfl | hc
      · exact h
      · exact ih hc
    · rw [List.takeWhile_cons_of_neg (by simpa using h)] at hc
      simp at hc
theorem cutN_run {z : List Nat} {a : Nat} (h : a ≤ z.length) : cutN z (some (a : Int)) (some (bd z a : Nat)) = run z a := by
  unfold cutN
  rw [HT.sIx_nat, HT.sIx_nat, Nat.min_eq_left h, Nat.min_eq_left (bd_le h)]
  have e : bd z a - a = (run z a).length := by unfold bd; omega
  rw [e]
  unfold run
  exact (List.prefix_iff_eq_take.mp (List.takeWhile_prefix _)).symm
def num (l : List Nat) : Nat := l.foldl (fun n c => 10 * n + (c - 48)) 0
def within (l : List Nat) (lo hi : Nat) : Bool := decide (1 ≤ l.length) && decide (l.length ≤ 2) && decide (lo ≤ num l) && decide (num l ≤ hi)
theorem within_iff {l : List Nat} {lo hi : Nat} : within l lo hi = true ↔ (1 ≤ l.length ∧ l.length ≤ 2 ∧ lo ≤ num l ∧ num l ≤ hi) := by
  unfold within
  simp only [Bool.and_eq_true, decide_eq_true_eq, and_assoc]
/-! ### the reader -/
abbrev Res := Except Nat (Stv × Nat)
def rep (s : Stv) (t : Nat) : Stv := (s.1 * t, rpt t s.2)
def beh (s u : Stv) : Stv := (s.1 + u.1, s.2 ++ u.2)
def shown (ps : List Stv) : Stv := (lcmL ps, showN ps (lcmL ps))
def fillTo (p : Stv) (b : Nat) : Stv := (b, p.2 ++ List.replicate (b - p.1) 46)
def isStart (c : Nat) : Bool := decide (c ∈ SG) || decide (c ∈ DG)
def timesOf (r : List Nat) : Nat := if r = [] then 1 else num r
def close (z : List Nat) (t : Nat) : Res → Res
  | .error k => .error k
  | .ok (s, e) => if z[e]? = some 41 then .ok (rep s t, e + 1) else .error e
def item (rp : Option (Nat → Res)) (z : List Nat) (a : Nat) : Res :=
  if (run z a).take 1 = [48] then .error a
  else match z[bd z a]? with
    | none => .error (bd z a)
    | some c =>
      if c ∉ SG ∧ c ≠ 40 then .error (bd z a)
      else if run z a ≠ [] ∧ within (run z a) 2 24 = false then .error a
      else if c ≠ 40 then .ok (rep (1, [c]) (timesOf (run z a)), bd z a + 1)
      else match rp with
        | none => .error (bd z a)
        | some f => close z (timesOf (run z a)) (f (bd z a + 1))
def goOn (k : Stv → Nat → Res) : Res → Res
  | .error k => .error k
  | .ok (s, e) => k s e
def items (ri : Nat → Res) (z : List Nat) : Nat → Nat → Stv → Res
  | 0, a, p => .ok (p, a)
  | f + 1, a, p => match z[a]? with
    | none => .ok (p, a)
    | some c => if isStart c = true then goOn (fun s e => items ri z f e (beh p s)) (ri a) else .ok (p, a)
def filled (z : List Nat) (a : Nat) (p : Stv) : Res :=
  if run z a = [] then .error a
  else if (run z a).take 1 = [48] ∨ within (run z a) (max 1 p.1) 24 = false then .error a
  else .ok (fillTo p (num (run z a)), bd z a)
def partEnd (z : List Nat) (p : Stv) (e : Nat) : Res := if p.1 = 0 then .error e else if z[e]? = some 64 then filled z (e + 1) p else .ok (p, e)
def part (ri : Nat → Res) (z : List Nat) (a : Nat) : Res := goOn (partEnd z) (items ri z (z.length + 1 - a) a (0, []))
def more (rq : Nat → Res) (z : List Nat) : Nat → Nat → List Stv → Res
  | 0, a, ps => .ok (shown ps, a)
  | f + 1, a, ps => if z[a]? = some 38 then goOn (fun s e => more rq z f e (ps ++ [s])) (rq (a + 1)) else .ok (shown ps, a)
def parts (ri : Nat → Res) (z : List Nat) (a : Nat) : Res := goOn (fun s e => more (part ri z) z (z.length + 1 - e) e [s]) (part ri z a)
mutual
/-- an item, so many more may be opened -/
def rdItem (z : List Nat) : Nat → Nat → Res
  | 0 => item none z
  | d + 1 => item (some (rd z d)) z
def rd (z : List Nat) : Nat → Nat → Res
  | d => parts (rdItem z d) z
end
/-! ### what the reader hands back is small, and has its length -/
def Gb (s : Stv) (w : Nat) : Prop := s.1 + 1 ≤ 2 ^ (5 * w) ∧ (s.1 ≤ 24 → s.2.length = s.1)
def Gd (z : List Nat) (f : Nat → Res) : Prop := ∀ a s e, a ≤ z.length → f a = .ok (s, e) → a < e ∧ e ≤ z.length ∧ 1 ≤ s.1 ∧ Gb s (e - a)
theorem pow_mono5 {x y : Nat} (h : x ≤ y) : 2 ^ (5 * x) ≤ 2 ^ (5 * y) := Nat.pow_le_pow_right (by decide) (by omega)
theorem pow32 {w : Nat} (h : 1 ≤ w) : 32 ≤ 2 ^ (5 * w) := Nat.le_trans (by decide : 32 ≤ 2 ^ (5 * 1)) (pow_mono5 h)
theorem Gb.small {s : Stv} {w : Nat} (h : s.1 ≤ 24) (hw : 1 ≤ w) (hl : s.2.length = s.1) : Gb s w := ⟨by have := pow32 hw; omega, fun _ => hl⟩
theorem Gb.beh {p s : Stv} {x y : Nat} (hp : Gb p x) (hs : Gb s y) : Gb (beh p s) (x + y) := by
  refine ⟨?_, fun h => ?_⟩
  · show p.1 + s.1 + 1 ≤ _
    rw [Nat.mul_add, Nat.pow_add]
    refine Nat.le_trans ?_ (Nat.mul_le_mul hp.1 hs.1)
    rw [Nat.add_mul, Nat.mul_add]
    omega
  · have h : p.1 + s.1 ≤ 24 := h
    show (p.2 ++ s.2).length = p.1 + s.1
    rw [List.length_append, hp.2 (by omega), hs.2 (by omega)]
theorem Gb.rep {s : Stv} {x y t : Nat} (hs : Gb s x) (h1 : 1 ≤ s.1) (t1 : 1 ≤ t) (t2 : t ≤ 24) (hy : x + 1 ≤ y) : Gb (rep s t) y := by
  refine ⟨?_, fun h => ?_⟩
  · show s.1 * t + 1 ≤ _
    refine Nat.le_trans ?_ (pow_mono5 hy)
    rw [Nat.mul_add, Nat.pow_add]
    have := Nat.mul_le_mul hs.1 (show 24 ≤ 2 ^ (5 * 1) by decide)
    have h2 : s.1 * t ≤ s.1 * 24 := Nat.mul_le_mul_left _ t2
    omega
  · have h : s.1 * t ≤ 24 := h
    have : s.1 ≤ s.1 * t := Nat.le_mul_of_pos_right _ t1
    show (rpt t s.2).length = s.1 * t
    rw [rpt_len, hs.2 (by omega), Nat.mul_comm]
theorem times_ok {r : List Nat} (h : ¬ (r ≠ [] ∧ within r 2 24 = false)) : 1 ≤ timesOf r ∧ timesOf r ≤ 24 ∧ (r ≠ [] → 1 ≤ r.length) := by
  unfold timesOf
  by_cases e : r = []
  · rw [if_pos e]; exact ⟨by decide, by decide, fun z => absurd e z⟩
  · rw [if_neg e]
    have : within r 2 24 = true := by
      cases hw : within r 2 24 with
      | true => rfl
      | false => exact absurd ⟨e, hw⟩ h
    have := within_iff.mp this
    exact ⟨by omega, this.2.2.2, fun _ => this.1⟩
theorem item_gd {z : List Nat} {rp : Option (Nat → Res)} (hp : ∀ f, rp = some f → Gd z f) : Gd z (item rp z) := by
  intro a s e ha h
  unfold item at h
  split at h
  · cases h
  · split at h
    · cases h
    · rename_i c hc
      have hl := (List.getElem?_eq_some_iff.mp hc).1
      have hb := bd_ge z a
      split at h
      · cases h
      · split at h
        · cases h
        · rename_i ht
          obtain ⟨t1, t2, t3⟩ := times_ok ht
          split at h
          · cases h
            refine ⟨by omega, by omega, ?_, ?_⟩
            · show 1 ≤ 1 * _; omega
            · refine Gb.small (by show 1 * _ ≤ 24; omega) (by omega) ?_
              show (rpt _ [c]).length = 1 * _
              rw [rpt_len, List.length_singleton]; omega
          · split at h
            · cases h
            · rename_i f
              have g := hp f rfl
              unfold close at h
              split at h
              · cases h
              · rename_i s' e' hf
                obtain ⟨g1, g2, g3, g4⟩ := g _ _ _ (by omega) hf
                split at h
                · rename_i h41
                  have := (List.getElem?_eq_some_iff.mp h41).1
                  cases h
                  refine ⟨by omega, by omega, Nat.mul_pos g3 t1, g4.rep g3 t1 t2 (by omega)⟩
                · cases h
theorem items_gd {z : List Nat} {ri : Nat → Res} (hi : Gd z ri) {a0 : Nat} : ∀ (f a : Nat) (p s : Stv) (e : Nat), a0 ≤ a → a ≤ z.length → Gb p (a - a0) → items ri z f a p = .ok (s, e) → a ≤ e ∧ e ≤ z.length ∧ Gb s (e - a0) ∧ (s.1 = 0 ∨ a < e ∨ s = p)
  | 0, a, p, s, e, h0, ha, hp, h => by
    unfold items at h
    cases h
    exact ⟨by omega, ha, hp, .inr (.inr rfl)⟩
  | f + 1, a, p, s, e, h0, ha, hp, h => by
    unfold items at h
    split at h
    · cases h
      exact ⟨by omega, ha, hp, .inr (.inr rfl)⟩
    · split at h
      · unfold goOn at h
        split at h
        · cases h
        · rename_i s' e' hf
          obtain ⟨g1, g2, g3, g4⟩ := hi _ _ _ ha hf
          have := items_gd hi (a0 := a0) f e' (beh p s') s e (by omega) g2 (by
            have := hp.beh g4
            rw [show a - a0 + (e' - a) = e' - a0 by omega] at this
            exact this) h
          exact ⟨by omega, this.2.1, this.2.2.1, .inr (.inl (by omega))⟩
      · cases h
        exact ⟨by omega, ha, hp, .inr (.inr rfl)⟩
theorem filled_gd {z : List Nat} {a e : Nat} {p s : Stv} (ha : a ≤ z.length) (hp : p.1 ≤ 24 → p.2.length = p.1) (h : filled z a p = .ok (s, e)) : a < e ∧ e ≤ z.length ∧ 1 ≤ s.1 ∧ s.1 ≤ 24 ∧ s.2.length = s.1 := by
  unfold filled at h
  split at h
  · cases h
  · rename_i hr
    split at h
    · cases h
    · rename_i hw
      have : within (run z a) (max 1 p.1) 24 = true := by
        cases hc : within (run z a) (max 1 p.1) 24 with
        | true => rfl
        | false => exact absurd (.inr hc) hw
      obtain ⟨w1, w2, w3, w4⟩ := within_iff.mp this
      cases h
      refine ⟨by unfold bd; omega, bd_le ha, by show 1 ≤ num _; omega, w4, ?_⟩
      show (p.2 ++ List.replicate _ 46).length = num _
      rw [List.length_append, List.length_replicate, hp (by omega)]
      omega
theorem part_gd {z : List Nat} {ri : Nat → Res} (hi : Gd z ri) : Gd z (part ri z) := by
  intro a s e ha h
  unfold part goOn at h
  split at h
  · cases h
  · rename_i p e' hf
    obtain ⟨g1, g2, g3, g4⟩ := items_gd hi (a0 := a) _ a (0, []) p e' (Nat.le_refl _) ha ⟨by rw [Nat.sub_self]; decide, fun _ => rfl⟩ hf
    unfold partEnd at h
    split at h
    · cases h
    · rename_i hp0
      have hlt : a < e' := by
        rcases g4 with g | g | g
        · exact absurd g hp0
        · exact g
        · rw [g] at hp0; exact absurd rfl hp0
      split at h
      · rename_i h64
        have := (List.getElem?_eq_some_iff.mp h64).1
        obtain ⟨f1, f2, f3, f4, f5⟩ := filled_gd (by omega) g3.2 h
        exact ⟨by omega, f2, f3, Gb.small f4 (by omega) f5⟩
      · cases h
        exact ⟨hlt, g2, by omega, g3⟩
def Gps (ps : List Stv) (w : Nat) : Prop := lcmL ps + 1 ≤ 2 ^ (5 * w) ∧ ∀ p ∈ ps, 1 ≤ p.1 ∧ (p.1 ≤ 24 → p.2.length = p.1)
theorem lcm_le_mul {a b : Nat} (ha : 1 ≤ a) (hb : 1 ≤ b) : Nat.lcm a b ≤ a * b := Nat.le_of_dvd (Nat.mul_pos ha hb) (Nat.lcm_dvd_mul a b)
theorem Gps.snoc {ps : List Stv} {s : Stv} {x y : Nat} (h : Gps ps x) (h1 : 1 ≤ s.1) (hs : Gb s y) : Gps (ps ++ [s]) (x + y) := by
  refine ⟨?_, fun p hp => ?_⟩
  · rw [lcmL_snoc, Nat.mul_add, Nat.pow_add]
    refine Nat.le_trans ?_ (Nat.mul_le_mul h.1 hs.1)
    have := lcm_le_mul (lcmL_pos fun p hp => (h.2 p hp).1) h1
    rw [Nat.add_mul, Nat.mul_add]
    omega
  · rcases List.mem_append.mp hp with hp | hp
    · exact h.2 p hp
    · rw [List.mem_singleton.mp hp]; exact ⟨h1, hs.2⟩
theorem Gps.shown {ps : List Stv} {w : Nat} (h : Gps ps w) : 1 ≤ (shown ps).1 ∧ Gb (shown ps) w :=
  ⟨lcmL_pos fun p hp => (h.2 p hp).1, h.1, fun _ => showN_len _ _⟩
theorem Gps.one {s : Stv} {w : Nat} (h1 : 1 ≤ s.1) (h : Gb s w) : Gps [s] w := by
  refine ⟨?_, fun p hp => ?_⟩
  · show Nat.lcm 1 s.1 + 1 ≤ _
    rw [show Nat.lcm 1 s.1 = s.1 by simp [Nat.lcm]]; exact h.1
  · rw [List.mem_singleton.mp hp]; exact ⟨h1, h.2⟩
theorem Gps.mono {ps : List Stv} {x y : Nat} (h : Gps ps x) (e : x ≤ y) : Gps ps y := ⟨Nat.le_trans h.1 (pow_mono5 e), h.2⟩
theorem more_gd {z : List Nat} {rq : Nat → Res} (hi : Gd z rq) {a0 : Nat} : ∀ (f a : Nat) (ps : List Stv) (s : Stv) (e : Nat), a0 ≤ a → a ≤ z.length → Gps ps (a - a0) → more rq z f a ps = .ok (s, e) → a ≤ e ∧ e ≤ z.length ∧ 1 ≤ s.1 ∧ Gb s (e - a0)
  | 0, a, ps, s, e, h0, ha, hp, h => by
    unfold more at h
    cases h
    exact ⟨by omega, ha, hp.shown⟩
  | f + 1, a, ps, s, e, h0, ha, hp, h => by
    unfold more at h
    split at h
    · rename_i h38
      have hl := (List.getElem?_eq_some_iff.mp h38).1
      unfold goOn at h
      split at h
      · cases h
      · rename_i s' e' hf
        obtain ⟨g1, g2, g3, g4⟩ := hi _ _ _ (by omega) hf
        have := more_gd hi (a0 := a0) f e' (ps ++ [s']) s e (by omega) g2 ((hp.snoc g3 g4).mono (by omega)) h
        exact ⟨by omega, this.2⟩
    · cases h
      exact ⟨by omega, ha, hp.shown⟩
theorem parts_gd {z : List Nat} {ri : Nat → Res} (hi : Gd z ri) : Gd z (parts ri z) := by
  intro a s e ha h
  unfold parts goOn at h
  split at h
  · cases h
  · rename_i s' e' hf
    obtain ⟨g1, g2, g3, g4⟩ := part_gd hi _ _ _ ha hf
    have := more_gd (part_gd hi) (a0 := a) _ e' [s'] s e (by omega) g2 (Gps.one g3 g4) h
    exact ⟨by omega, this.2⟩
theorem rdItem_zero (z : List Nat) : rdItem z 0 = item none z := by unfold rdItem; rfl
theorem rdItem_succ (z : List Nat) (d : Nat) : rdItem z (d + 1) = item (some (rd z d)) z := by conv => lhs; unfold rdItem
theorem rd_eq (z : List Nat) (d : Nat) : rd z d = parts (rdItem z d) z := by unfold rd; rfl
theorem rdItem_gd (z : List Nat) : ∀ d, Gd z (rdItem z d)
  | 0 => by rw [rdItem_zero]; exact item_gd fun f e => nomatch e
  | d + 1 => by
    rw [rdItem_succ]
    refine item_gd fun f e => ?_
    cases e
    rw [rd_eq]
    exact parts_gd (rdItem_gd z d)
theorem rd_gd (z : List Nat) (d : Nat) : Gd z (rd z d) := by rw [rd_eq]; exact parts_gd (rdItem_gd z d)
end Fg
/-! What the walk of the reader asks. -/
namespace Fg
open PySem PySem.Spec PyProof.Rows L2
theorem range_getD_map {α β : Type} (xs : List α) (d : α) (g : α → β) : (List.range xs.length).map (fun i => g (xs.getD i d)) = xs.map g := by
  refine List.ext_getElem? fun i => ?_
  rw [List.getElem?_map, List.getElem?_map]
  by_cases h : i < xs.length
  · rw [List.getElem?_range h, Option.map_some, List.getD_eq_getElem?_getD, List.getElem?_eq_getElem h]
    rfl
  · rw [List.getElem?_eq_none (by simpa using h), List.getElem?_eq_none (by omega)]
    rfl
def PartsAt (H : Hp) (qs : List Addr) (ps : List Stv) : Prop := qs.length = ps.length ∧ ∀ (i : Nat) (q : Addr) (p : Stv), qs[i]? = some q → ps[i]? = some p → H q = some (Sv p.1 p.2)
theorem PartsAt.mono {H H' : Hp} {qs : List Addr} {ps : List Stv} (h : PartsAt H qs ps) (s : Same H H') : PartsAt H' qs ps := ⟨h.1, fun i q p a b => s _ _ (h.2 i q p a b)⟩
/-- below some thousand bits -/
def Big (n : Nat) : Prop := n < 2 ^ 8600
theorem Big.le {n m : Nat} (h : Big n) (e : m ≤ n) : Big m := Nat.lt_of_le_of_lt e h
theorem Big.div {n : Nat} {a : Int} (h : Big n) (h0 : (0 : Int) < (n : Int)) : CDivW a (n : Int) := wide_div (b := 8600) h0 (by rw [Int.natAbs_natCast]; exact h) (by decide) (by decide)
theorem Big.mul {n m : Nat} (h : Big n) (h' : Big m) : IntMulOk (n : Int) (m : Int) := CMulW.ok (wide_mul (a := 8600) (b := 8600) (by rw [Int.natAbs_natCast]; exact h) (by rw [Int.natAbs_natCast]; exact h') (by decide) (by decide) (by decide))
theorem Gb.big {s : Stv} {w : Nat} (h : Gb s w) (hw : w ≤ 1700) : Big s.1 := Nat.lt_of_lt_of_le (Nat.lt_of_lt_of_le (Nat.lt_succ_self _) h.1) (Nat.pow_le_pow_right (by decide) (by omega))
theorem Gps.big {ps : List Stv} {w : Nat} (h : Gps ps w) (hw : w ≤ 1700) : Big (lcmL ps) := Nat.lt_of_lt_of_le (Nat.lt_of_lt_of_le (Nat.lt_succ_self _) h.1) (Nat.pow_le_pow_right (by decide) (by omega))
theorem lcmL_take {ps : List Stv} (h : ∀ p ∈ ps, 1 ≤ p.1) (i : Nat) : lcmL (ps.take i) ≤ lcmL ps := by
  refine Nat.le_of_dvd (lcmL_pos h) ?_
  conv => rhs; rw [← List.take_append_drop i ps]
  unfold lcmL
  rw [List.foldl_append]
  exact (dvd_fold _ _).1
/-- int(text) -/
def rIntTx : RC := fun xs H Q => ∃ a n, xs = [.str a] ∧ PySem.intText? a = some n ∧ a.length ≤ 640 ∧ Q (.int n) H
theorem call_intTx {X : Cx} : CallR X (.type "int") rIntTx := call_int_str
theorem int1 : ∀ c ∈ DG, PySem.intText? ⟨#[c]⟩ = some ((num [c] : Nat) : Int) := by decide +kernel
theorem int2 : ∀ c ∈ DG, ∀ d ∈ DG, PySem.intText? ⟨#[c, d]⟩ = some ((num [c, d] : Nat) : Int) := by decide +kernel
theorem i_intTx {r : List Nat} {H : Hp} {Q : VK} (h1 : 1 ≤ r.length) (h2 : r.length ≤ 2) (hd : ∀ c ∈ r, c ∈ DG) (q : Q (.int ((num r : Nat) : Int)) H) : rIntTx [S r] H Q := by
  match r, h1, h2, hd, q with
  | [c], _, _, hd, q => exact ⟨_, _, rfl, int1 c (hd c (by simp)), (show 1 ≤ 640 by omega), q⟩
  | [c, d], _, _, hd, q => exact ⟨_, _, rfl, int2 c (hd c (by simp)) d (hd d (by simp)), (show 2 ≤ 640 by omega), q⟩
/-- str(int), of small ones -/
def dec (n : Nat) : List Nat := if n < 10 then [48 + n] else [48 + n / 10, 48 + n % 10]
theorem dec_str : ∀ n : Nat, n < 100 → (toString (n : Int) : Str) = ⟨(dec n).toArray⟩ := by decide +kernel
def rStrS : RC := fun xs H Q => ∃ n : Nat, xs = [.int (n : Int)] ∧ n < 100 ∧ Q (S (dec n)) H
theorem call_strS {X : Cx} : CallR X (.type "str") rStrS := by
  intro pins s σ H xs us Q I rs h
  obtain ⟨n, rfl, hn, q⟩ := h
  refine call_str_int pins s σ H _ us Q I rs ⟨(n : Int), rfl, ?_, ?_⟩
  · have : (n : Int).natAbs = n := Int.natAbs_natCast n
    rw [this]
    by_cases h0 : n = 0
    · subst h0; decide
    · exact Nat.lt_trans ((Nat.log2_lt h0).mpr (Nat.lt_trans hn (by decide : 100 < 2 ^ 7))) (by decide)
  · have e : V.str (toString (n : Int)) = S (dec n) := by unfold S; rw [dec_str n hn]
    rw [e]; exact q
def rpOf (z : List Nat) : Nat → Option (Nat → Res)
  | 0 => none
  | d + 1 => some (rd z d)
theorem rdItem_item (z : List Nat) (d : Nat) : rdItem z d = item (rpOf z d) z := by
  cases d with
  | zero => exact rdItem_zero z
  | succ d => exact rdItem_succ z d
/-- what is no string -/
def NoStr (H : Hp) (x : V) : Prop := x = .non ∨ (∃ b, x = .bl b) ∨ (∃ i, x = .int i) ∨ ∃ a xs, x = .ref a ∧ (H a = some (.tup xs) ∨ H a = some (.lst xs))
theorem NoStr.mono {H H' : Hp} {x : V} (h : NoStr H x) (s : Same H H') : NoStr H' x := by
  rcases h with h | h | h | ⟨a, xs, h, h2⟩
  · exact .inl h
  · exact .inr (.inl h)
  · exact .inr (.inr (.inl h))
  · exact .inr (.inr (.inr ⟨a, xs, h, h2.imp (s _ _) (s _ _)⟩))
end Fg
namespace Fg
open PySem PySem.Spec PyProof.Rows L2
/-! ### texts put together -/
theorem joinL_len (ls : List (List Nat)) : (TL.joinL [38] ls).length ≤ (ls.map fun l => l.length + 1).sum := by
  induction ls with
  | nil => exact Nat.le_refl _
  | cons p r ih =>
    cases r with
    | nil => show p.length ≤ _; rw [List.map_cons, List.sum_cons]; omega
    | cons q r =>
      show (p ++ ([38] ++ TL.joinL [38] (q :: r))).length ≤ _
      rw [List.map_cons, List.sum_cons, List.length_append, List.length_append]
      have : ([38] : List Nat).length = 1 := rfl
      omega
theorem joinL_len1 (ls : List (List Nat)) (h : ls ≠ []) : (TL.joinL [38] ls).length + 1 ≤ (ls.map fun l => l.length + 1).sum := by
  induction ls with
  | nil => exact absurd rfl h
  | cons p r ih =>
    cases r with
    | nil => show p.length + 1 ≤ _; rw [List.map_cons, List.sum_cons]; omega
    | cons q r =>
      have := ih (by simp)
      show (p ++ ([38] ++ TL.joinL [38] (q :: r))).length + 1 ≤ _
      rw [List.map_cons, List.sum_cons, List.length_append, List.length_append]
      have : ([38] : List Nat).length = 1 := rfl
      omega
theorem join_sep (sep : List Nat) (ls : List (List Nat)) : Txt.join ⟨sep.toArray⟩ (ls.map fun l => (⟨l.toArray⟩ : Str)) = ⟨(TL.joinL sep ls).toArray⟩ := by
  refine TL.ext_tl ?_
  rw [TL.join_eq, TL.tl_join, List.map_map]
  show TL.joinL sep.toArray.toList (ls.map fun l => l.toArray.toList) = (TL.joinL sep ls).toArray.toList
  simp
theorem i_joinG {K : PySem.W.Frag} {H : Hp} {Q : VK} {p : Addr} {sep : List Nat} {ls : List (List Nat)} (hs : SqL K H p (ls.map S)) (hz : (ls.map List.length).sum + ls.length * sep.length ≤ 100000) (q : Q (S (TL.joinL sep ls)) H) : rJoinP K (S sep) [.ref p] H Q := by
  refine ⟨⟨sep.toArray⟩, p, ls.map fun l => (⟨l.toArray⟩ : Str), rfl, rfl, .inl ?_, ?_, ?_⟩
  · rw [List.map_map]; exact hs
  · rw [List.map_map]
    have e : (ls.map ((·.length) ∘ fun l => (⟨l.toArray⟩ : Str))) = ls.map List.length := List.map_congr_left fun l _ => str_len l
    rw [e, List.length_map]
    have e2 : (⟨sep.toArray⟩ : Str).length = sep.length := str_len sep
    show (ls.map List.length).sum + ls.length * (⟨sep.toArray⟩ : Str).length ≤ _
    rw [e2]
    exact Nat.le_trans hz (by decide)
  · rw [join_sep]; exact q
theorem sum_len1 (ls : List (List Nat)) : (ls.map fun l => l.length + 1).sum = (ls.map List.length).sum + ls.length := by
  induction ls with
  | nil => rfl
  | cons p r ih => rw [List.map_cons, List.map_cons, List.sum_cons, List.sum_cons, ih, List.length_cons]; omega
theorem upd_comm {H : Hp} {a b : Addr} {o o' : HO} (h : a ≠ b) : upd (upd H a o) b o' = upd (upd H b o') a o := by
  funext c
  by_cases h1 : c = b
  · rw [h1, upd_same, upd_ne (Ne.symm h), upd_same]
  · rw [upd_ne h1]
    by_cases h2 : c = a
    · rw [h2, upd_same, upd_same]
    · rw [upd_ne h2, upd_ne h2, upd_ne h1]
def ones (n : Nat) : List V := List.replicate n (.int 1)
theorem ones_succ (n : Nat) : ones n ++ [.int 1] = ones (n + 1) := by
  unfold ones
  rw [List.replicate_succ', ]
theorem dec_len (n : Nat) : (dec n).length ≤ 2 := by
  unfold dec
  split <;> simp
end Fg
namespace K12
open PySem PySem.Spec PyProof.Rows L2 Fg
def topS (i : Nat) : Stmt := PySem.Challenge.pw_falseglim_k12_weather_lines.main.body.getD i (.Pass ⟨0, 0, 0, 0⟩)
abbrev s_is_integer : Stmt := topS 8
theorem sc_is_integer : FnScope ["thing", "low", "high"] ["thing", "low", "high"] (defScope s_is_integer) := ⟨rfl, rfl, rfl, by decide +kernel, rfl, by decide +kernel, by decide +kernel⟩
abbrev s_deep : Stmt := topS 9
theorem sc_deep : FnScope ["thing", "level", "part"] ["thing", "level"] (defScope s_deep) := ⟨rfl, rfl, rfl, by decide +kernel, rfl, by decide +kernel, by decide +kernel⟩
abbrev s_is_sign : Stmt := topS 10
theorem sc_is_sign : FnScope ["thing"] ["thing"] (defScope s_is_sign) := ⟨rfl, rfl, rfl, by decide +kernel, rfl, by decide +kernel, by decide +kernel⟩
abbrev s_is_lit : Stmt := topS 11
theorem sc_is_lit : FnScope ["thing"] ["thing"] (defScope s_is_lit) := ⟨rfl, rfl, rfl, by decide +kernel, rfl, by decide +kernel, by decide +kernel⟩
abbrev s_is_number : Stmt := topS 14
theorem sc_is_number : FnScope ["text", "sign"] ["text"] (defScope s_is_number) := ⟨rfl, rfl, rfl, by decide +kernel, rfl, by decide +kernel, by decide +kernel⟩
abbrev s_Lines___init__ : Stmt := inClass (topS 15) 0
theorem sc_Lines___init__ : FnScope ["self", "texts", "at"] ["self", "texts", "at"] (defScope s_Lines___init__) := ⟨rfl, rfl, rfl, by decide +kernel, rfl, by decide +kernel, by decide +kernel⟩
abbrev s_Lines_is_over : Stmt := inClass (topS 15) 1
theorem sc_Lines_is_over : FnScope ["self"] ["self"] (defScope s_Lines_is_over) := ⟨rfl, rfl, rfl, by decide +kernel, rfl, by decide +kernel, by decide +kernel⟩
abbrev s_Lines_words : Stmt := inClass (topS 15) 3
theorem sc_Lines_words : FnScope ["self"] ["self"] (defScope s_Lines_words) := ⟨rfl, rfl, rfl, by decide +kernel, rfl, by decide +kernel, by decide +kernel⟩
abbrev s_Lines_first_word : Stmt := inClass (topS 15) 4
theorem sc_Lines_first_word : FnScope ["self"] ["self"] (defScope s_Lines_first_word) := ⟨rfl, rfl, rfl, by decide +kernel, rfl, by decide +kernel, by decide +kernel⟩
abbrev s_Lines_fail_at : Stmt := inClass (topS 15) 6
theorem sc_Lines_fail_at : FnScope ["self", "number"] ["self", "number"] (defScope s_Lines_fail_at) := ⟨rfl, rfl, rfl, by decide +kernel, rfl, by decide +kernel, by decide +kernel⟩
abbrev s_Lines_word_at : Stmt := inClass (topS 15) 7
theorem sc_Lines_word_at : FnScope ["self", "number", "words"] ["self", "number"] (defScope s_Lines_word_at) := ⟨rfl, rfl, rfl, by decide +kernel, rfl, by decide +kernel, by decide +kernel⟩
abbrev s_Lines_number_at : Stmt := inClass (topS 15) 8
theorem sc_Lines_number_at : FnScope ["self", "number", "low", "high", "word"] ["self", "number", "low", "high"] (defScope s_Lines_number_at) := ⟨rfl, rfl, rfl, by decide +kernel, rfl, by decide +kernel, by decide +kernel⟩
abbrev s_Lines_sign_at : Stmt := inClass (topS 15) 9
theorem sc_Lines_sign_at : FnScope ["self", "number", "lit", "word"] ["self", "number", "lit"] (defScope s_Lines_sign_at) := ⟨rfl, rfl, rfl, by decide +kernel, rfl, by decide +kernel, by decide +kernel⟩
abbrev s_Lines_close_at : Stmt := inClass (topS 15) 16
theorem sc_Lines_close_at : FnScope ["self", "number"] ["self", "number"] (defScope s_Lines_close_at) := ⟨rfl, rfl, rfl, by decide +kernel, rfl, by decide +kernel, by decide +kernel⟩
abbrev s_is_lose : Stmt := topS 18
theorem sc_is_lose : FnScope ["told"] ["told"] (defScope s_is_lose) := ⟨rfl, rfl, rfl, by decide +kernel, rfl, by decide +kernel, by decide +kernel⟩
abbrev s_is_miss : Stmt := topS 19
theorem sc_is_miss : FnScope ["told"] ["told"] (defScope s_is_miss) := ⟨rfl, rfl, rfl, by decide +kernel, rfl, by decide +kernel, by decide +kernel⟩
abbrev s_is_taking : Stmt := topS 20
theorem sc_is_taking : FnScope ["told"] ["told"] (defScope s_is_taking) := ⟨rfl, rfl, rfl, by decide +kernel, rfl, by decide +kernel, by decide +kernel⟩
abbrev s_is_weather : Stmt := topS 21
theorem sc_is_weather : FnScope ["thing", "told"] ["thing"] (defScope s_is_weather) := ⟨rfl, rfl, rfl, by decide +kernel, rfl, by decide +kernel, by decide +kernel⟩
abbrev s_check_weathers : Stmt := topS 22
theorem sc_check_weathers : FnScope ["told", "number", "weather"] ["told"] (defScope s_check_weathers) := ⟨rfl, rfl, rfl, by decide +kernel, rfl, by decide +kernel, by decide +kernel⟩
abbrev s_weather_line : Stmt := topS 23
theorem sc_weather_line : FnScope ["weather", "word"] ["weather"] (defScope s_weather_line) := ⟨rfl, rfl, rfl, by decide +kernel, rfl, by decide +kernel, by decide +kernel⟩
abbrev s_write_weathers : Stmt := topS 24
theorem sc_write_weathers : FnScope ["weathers", "told", "weather"] ["weathers"] (defScope s_write_weathers) := ⟨rfl, rfl, rfl, by decide +kernel, rfl, by decide +kernel, by decide +kernel⟩
abbrev s_weather_at : Stmt := topS 25
theorem sc_weather_at : FnScope ["reader", "word", "weather"] ["reader"] (defScope s_weather_at) := ⟨rfl, rfl, rfl, by decide +kernel, rfl, by decide +kernel, by decide +kernel⟩
abbrev s_read_weathers : Stmt := topS 26
theorem sc_read_weathers : FnScope ["lines", "reader", "weathers", "told"] ["lines"] (defScope s_read_weathers) := ⟨rfl, rfl, rfl, by decide +kernel, rfl, by decide +kernel, by decide +kernel⟩
abbrev s_L_draw : Stmt := topS 28
theorem sc_L_draw : FnScope ["_law_script", "_law_cells", "_law_cell"] ["_law_script"] (defScope s_L_draw) := ⟨rfl, rfl, rfl, by decide +kernel, rfl, by decide +kernel, by decide +kernel⟩
abbrev s_L_mix : Stmt := topS 29
theorem sc_L_mix : FnScope ["_law_cell", "_law_turn", "_law_one", "_law_two"] ["_law_cell", "_law_turn"] (defScope s_L_mix) := ⟨rfl, rfl, rfl, by decide +kernel, rfl, by decide +kernel, by decide +kernel⟩
abbrev s_L_pick : Stmt := topS 30
theorem sc_L_pick : FnScope ["_law_draw_here", "_law_many", "_law_cell", "_law_digit", "_law_found"] ["_law_draw_here", "_law_many"] (defScope s_L_pick) := ⟨rfl, rfl, rfl, by decide +kernel, rfl, by decide +kernel, by decide +kernel⟩
abbrev s_L_is_int : Stmt := topS 31
theorem sc_L_is_int : FnScope ["_law_thing"] ["_law_thing"] (defScope s_L_is_int) := ⟨rfl, rfl, rfl, by decide +kernel, rfl, by decide +kernel, by decide +kernel⟩
abbrev s_L_exact : Stmt := topS 32
theorem sc_L_exact : FnScope ["_law_told", "_law_due_here", "_law_k"] ["_law_told", "_law_due_here"] (defScope s_L_exact) := ⟨rfl, rfl, rfl, by decide +kernel, rfl, by decide +kernel, by decide +kernel⟩
abbrev s_L_weather : Stmt := topS 33
theorem sc_L_weather : FnScope ["_law_draw_here", "_law_kind", "_law_many", "_law_lit", "_law_other"] ["_law_draw_here"] (defScope s_L_weather) := ⟨rfl, rfl, rfl, by decide +kernel, rfl, by decide +kernel, by decide +kernel⟩
abbrev s_L_line : Stmt := topS 34
theorem sc_L_line : FnScope ["_law_weather_here", "_law_thing"] ["_law_weather_here"] (defScope s_L_line) := ⟨rfl, rfl, rfl, by decide +kernel, rfl, by decide +kernel, by decide +kernel⟩
abbrev s_L_is_weather : Stmt := topS 35
theorem sc_L_is_weather : FnScope ["_law_thing", "_law_rest"] ["_law_thing"] (defScope s_L_is_weather) := ⟨rfl, rfl, rfl, by decide +kernel, rfl, by decide +kernel, by decide +kernel⟩
abbrev s_L_bad : Stmt := topS 36
theorem sc_L_bad : FnScope ["_law_things", "_law_k"] ["_law_things"] (defScope s_L_bad) := ⟨rfl, rfl, rfl, by decide +kernel, rfl, by decide +kernel, by decide +kernel⟩
abbrev s_L_forms : Stmt := topS 37
theorem sc_L_forms : FnScope ["_law_word_here"] ["_law_word_here"] (defScope s_L_forms) := ⟨rfl, rfl, rfl, by decide +kernel, rfl, by decide +kernel, by decide +kernel⟩
abbrev s_L_stands : Stmt := topS 38
theorem sc_L_stands : FnScope ["_law_form", "_law_word_here"] ["_law_form", "_law_word_here"] (defScope s_L_stands) := ⟨rfl, rfl, rfl, by decide +kernel, rfl, by decide +kernel, by decide +kernel⟩
abbrev s_L_line_read : Stmt := topS 39
theorem sc_L_line_read : FnScope ["_law_line_here", "_law_words", "_law_forms_here", "_law_thing", "_law_k"] ["_law_line_here"] (defScope s_L_line_read) := ⟨rfl, rfl, rfl, by decide +kernel, rfl, by decide +kernel, by decide +kernel⟩
abbrev s_L_due : Stmt := topS 40
theorem sc_L_due : FnScope ["_law_lines", "_law_things", "_law_k", "_law_thing", "_law_word_here", "_law_number"] ["_law_lines"] (defScope s_L_due) := ⟨rfl, rfl, rfl, by decide +kernel, rfl, by decide +kernel, by decide +kernel⟩
abbrev s_L_read : Stmt := topS 41
theorem sc_L_read : FnScope ["_law_lines", "e", "_law_kinds_here"] ["_law_lines"] (defScope s_L_read) := ⟨rfl, rfl, rfl, by decide +kernel, rfl, by decide +kernel, by decide +kernel⟩
abbrev s_L_written : Stmt := topS 42
theorem sc_L_written : FnScope ["_law_weathers", "e"] ["_law_weathers"] (defScope s_L_written) := ⟨rfl, rfl, rfl, by decide +kernel, rfl, by decide +kernel, by decide +kernel⟩
abbrev s_L_word : Stmt := topS 43
theorem sc_L_word : FnScope ["_law_draw_here", "_law_words"] ["_law_draw_here"] (defScope s_L_word) := ⟨rfl, rfl, rfl, by decide +kernel, rfl, by decide +kernel, by decide +kernel⟩
abbrev s_L_spoilt_line : Stmt := topS 44
theorem sc_L_spoilt_line : FnScope ["_law_draw_here", "_law_line_here", "_law_kind", "_law_words", "_law_place"] ["_law_draw_here", "_law_line_here"] (defScope s_L_spoilt_line) := ⟨rfl, rfl, rfl, by decide +kernel, rfl, by decide +kernel, by decide +kernel⟩
abbrev s_L_near : Stmt := topS 45
theorem sc_L_near : FnScope ["_law_draw_here", "_law_near_here"] ["_law_draw_here"] (defScope s_L_near) := ⟨rfl, rfl, rfl, by decide +kernel, rfl, by decide +kernel, by decide +kernel⟩
abbrev s_L_spoilt : Stmt := topS 46
theorem sc_L_spoilt : FnScope ["_law_draw_here", "_law_lines", "_law_place", "_law_kind", "_law_old"] ["_law_draw_here", "_law_lines"] (defScope s_L_spoilt) := ⟨rfl, rfl, rfl, by decide +kernel, rfl, by decide +kernel, by decide +kernel⟩
abbrev s_L_odd : Stmt := topS 47
theorem sc_L_odd : FnScope ["_law_draw_here", "_law_weather_here", "_law_place", "_law_thing", "_law_kind"] ["_law_draw_here", "_law_weather_here"] (defScope s_L_odd) := ⟨rfl, rfl, rfl, by decide +kernel, rfl, by decide +kernel, by decide +kernel⟩
abbrev s_L_kinds : Stmt := topS 48
theorem sc_L_kinds : FnScope ["_law_draw_here", "_law_things", "_law_out", "_law_thing"] ["_law_draw_here", "_law_things"] (defScope s_L_kinds) := ⟨rfl, rfl, rfl, by decide +kernel, rfl, by decide +kernel, by decide +kernel⟩
abbrev s_L_there_and_back : Stmt := topS 49
theorem sc_L_there_and_back : FnScope ["_law_draw_here", "_law_weathers", "_law_lines", "_law_handed", "_law_kept", "_law_passed"] ["_law_draw_here", "_law_weathers", "_law_lines"] (defScope s_L_there_and_back) := ⟨rfl, rfl, rfl, by decide +kernel, rfl, by decide +kernel, by decide +kernel⟩
abbrev s_law : Stmt := topS 50
theorem sc_law : FnScope ["_law_script", "_law_draw_here", "_law_weathers", "_law_lines", "_law_texts", "_law_turn", "_law_due_here", "_law_passed", "_law_things", "_law_place", "_law_number", "_law_told", "_law_odd_here", "_law_weather_here", "_law_line_here", "_law_thing"] ["_law_script"] (defScope s_law) := ⟨rfl, rfl, rfl, by decide +kernel, rfl, by decide +kernel, by decide +kernel⟩
abbrev s_BadLine : Stmt := inClass (topS 3) 0
theorem sc_BadLine : FnScope ["self", "line", "word"] ["self", "line", "word"] (defScope s_BadLine) := ⟨rfl, rfl, rfl, by decide +kernel, rfl, by decide +kernel, by decide +kernel⟩
abbrev s_BadWeather : Stmt := inClass (topS 4) 0
theorem sc_BadWeather : FnScope ["self", "number"] ["self", "number"] (defScope s_BadWeather) := ⟨rfl, rfl, rfl, by decide +kernel, rfl, by decide +kernel, by decide +kernel⟩
/-- what the top has written -/
structure Txt (K : PySem.W.Frag) (mg : Str → Option Value) (C_GlimError : Addr) (C_BadLine : Addr) (C_BadWeather : Addr) (C_Lines : Addr) : Prop where
  d_is_integer : DefIn K mg "is_integer" s_is_integer ["thing", "low", "high"]
  d_deep : DefD K mg "deep" s_deep ["thing", "level"] [.int 0]
  d_is_sign : DefIn K mg "is_sign" s_is_sign ["thing"]
  d_is_lit : DefIn K mg "is_lit" s_is_lit ["thing"]
  d_is_number : DefIn K mg "is_number" s_is_number ["text"]
  m_Lines___init__ : MkIn K mg "Lines" "Lines.__init__" C_Lines s_Lines___init__ ["self", "texts", "at"] [.int 0]
  m_Lines_is_over : MetIn K C_Lines "is_over" "Lines.is_over" s_Lines_is_over ["self"] []
  m_Lines_words : MetIn K C_Lines "words" "Lines.words" s_Lines_words ["self"] []
  m_Lines_first_word : MetIn K C_Lines "first_word" "Lines.first_word" s_Lines_first_word ["self"] []
  m_Lines_fail_at : MetIn K C_Lines "fail_at" "Lines.fail_at" s_Lines_fail_at ["self", "number"] []
  m_Lines_word_at : MetIn K C_Lines "word_at" "Lines.word_at" s_Lines_word_at ["self", "number"] []
  m_Lines_number_at : MetIn K C_Lines "number_at" "Lines.number_at" s_Lines_number_at ["self", "number", "low", "high"] []
  m_Lines_sign_at : MetIn K C_Lines "sign_at" "Lines.sign_at" s_Lines_sign_at ["self", "number", "lit"] [.bl false]
  k_Lines_sign_at : KwIn K C_Lines "sign_at" "Lines.sign_at" s_Lines_sign_at ["self", "number", "lit"] [.bl false] 2 ["lit"]
  m_Lines_close_at : MetIn K C_Lines "close_at" "Lines.close_at" s_Lines_close_at ["self", "number"] []
  d_is_lose : DefIn K mg "is_lose" s_is_lose ["told"]
  d_is_miss : DefIn K mg "is_miss" s_is_miss ["told"]
  d_is_taking : DefIn K mg "is_taking" s_is_taking ["told"]
  d_is_weather : DefIn K mg "is_weather" s_is_weather ["thing"]
  d_check_weathers : DefIn K mg "check_weathers" s_check_weathers ["told"]
  d_weather_line : DefIn K mg "weather_line" s_weather_line ["weather"]
  d_write_weathers : DefIn K mg "write_weathers" s_write_weathers ["weathers"]
  d_weather_at : DefIn K mg "weather_at" s_weather_at ["reader"]
  d_read_weathers : DefIn K mg "read_weathers" s_read_weathers ["lines"]
  d_L_draw : DefIn K mg "_law_draw" s_L_draw ["_law_script"]
  d_L_mix : DefIn K mg "_law_mix" s_L_mix ["_law_cell", "_law_turn"]
  d_L_pick : DefIn K mg "_law_pick" s_L_pick ["_law_draw_here", "_law_many"]
  d_L_is_int : DefIn K mg "_law_is_int" s_L_is_int ["_law_thing"]
  d_L_exact : DefIn K mg "_law_exact" s_L_exact ["_law_told", "_law_due_here"]
  d_L_weather : DefIn K mg "_law_weather" s_L_weather ["_law_draw_here"]
  d_L_line : DefIn K mg "_law_line" s_L_line ["_law_weather_here"]
  d_L_is_weather : DefIn K mg "_law_is_weather" s_L_is_weather ["_law_thing"]
  d_L_bad : DefIn K mg "_law_bad" s_L_bad ["_law_things"]
  d_L_forms : DefIn K mg "_law_forms" s_L_forms ["_law_word_here"]
  d_L_stands : DefIn K mg "_law_stands" s_L_stands ["_law_form", "_law_word_here"]
  d_L_line_read : DefIn K mg "_law_line_read" s_L_line_read ["_law_line_here"]
  d_L_due : DefIn K mg "_law_due" s_L_due ["_law_lines"]
  d_L_read : DefIn K mg "_law_read" s_L_read ["_law_lines"]
  d_L_written : DefIn K mg "_law_written" s_L_written ["_law_weathers"]
  d_L_word : DefIn K mg "_law_word" s_L_word ["_law_draw_here"]
  d_L_spoilt_line : DefIn K mg "_law_spoilt_line" s_L_spoilt_line ["_law_draw_here", "_law_line_here"]
  d_L_near : DefIn K mg "_law_near" s_L_near ["_law_draw_here"]
  d_L_spoilt : DefIn K mg "_law_spoilt" s_L_spoilt ["_law_draw_here", "_law_lines"]
  d_L_odd : DefIn K mg "_law_odd" s_L_odd ["_law_draw_here", "_law_weather_here"]
  d_L_kinds : DefIn K mg "_law_kinds" s_L_kinds ["_law_draw_here", "_law_things"]
  d_L_there_and_back : DefIn K mg "_law_there_and_back" s_L_there_and_back ["_law_draw_here", "_law_weathers", "_law_lines"]
  d_law : DefIn K mg "law" s_law ["_law_script"]
  b_ValueError : mg "ValueError" = none
  b_abs : mg "abs" = none
  b_bool : mg "bool" = none
  b_enumerate : mg "enumerate" = none
  b_int : mg "int" = none
  b_isinstance : mg "isinstance" = none
  b_len : mg "len" = none
  b_list : mg "list" = none
  b_range : mg "range" = none
  b_repr : mg "repr" = none
  b_str : mg "str" = none
  b_sum : mg "sum" = none
  b_tuple : mg "tuple" = none
  g_SIGNS : ∃ t, mg "SIGNS" = some (.str ⟨([46, 103, 114, 119] : List Nat).toArray⟩ t)
  g_MOST_LEVELS : ∃ t, mg "MOST_LEVELS" = some (.int 70 t)
  g_DIGITS : ∃ t, mg "DIGITS" = some (.str ⟨([48, 49, 50, 51, 52, 53, 54, 55, 56, 57] : List Nat).toArray⟩ t)
  g_MOST_WEATHERS : ∃ t, mg "MOST_WEATHERS" = some (.int 6 t)
  c_GlimError : mg "GlimError" = some (.ref C_GlimError)
  c_BadLine : mg "BadLine" = some (.ref C_BadLine)
  c_BadWeather : mg "BadWeather" = some (.ref C_BadWeather)
  c_Lines : mg "Lines" = some (.ref C_Lines)
  cl_Lines : Cls K C_Lines
  na_Lines_texts : NoAttr K C_Lines "texts"
  na_Lines_now : NoAttr K C_Lines "now"
  o_BadLine : OexC K C_BadLine
  nf_BadLine_line : PySem.W.findIn K (.ref C_BadLine) "line" = some none
  nf_BadLine_word : PySem.W.findIn K (.ref C_BadLine) "word" = some none
  i_BadLine : ∃ fI fd, PySem.W.findIn K (.ref C_BadLine) "__init__" = some (some (.ref fI)) ∧ PySem.W.typeIn K (.ref fI) = some (.type "function") ∧ Fun K "__init__" "BadLine.__init__" s_BadLine fI fd ∧ Binds K fd ["self", "line", "word"] []
  e_BadLine : ExcD K C_BadLine
  o_BadWeather : OexC K C_BadWeather
  nf_BadWeather_number : PySem.W.findIn K (.ref C_BadWeather) "number" = some none
  i_BadWeather : ∃ fI fd, PySem.W.findIn K (.ref C_BadWeather) "__init__" = some (some (.ref fI)) ∧ PySem.W.typeIn K (.ref fI) = some (.type "function") ∧ Fun K "__init__" "BadWeather.__init__" s_BadWeather fI fd ∧ Binds K fd ["self", "number"] []
  e_BadWeather : ExcD K C_BadWeather
  k_BadLine_BadLine : PySem.W.kitOne K (.ref C_BadLine) (.ref C_BadLine) = some true
  k_BadLine_BadWeather : PySem.W.kitOne K (.ref C_BadLine) (.ref C_BadWeather) = some false
  k_BadLine_ValueError : PySem.W.kitOne K (.ref C_BadLine) (.type "ValueError") = some true
  k_BadWeather_BadLine : PySem.W.kitOne K (.ref C_BadWeather) (.ref C_BadLine) = some false
  k_BadWeather_BadWeather : PySem.W.kitOne K (.ref C_BadWeather) (.ref C_BadWeather) = some true
  k_BadWeather_ValueError : PySem.W.kitOne K (.ref C_BadWeather) (.type "ValueError") = some true
  m_BadLine_GlimError : PySem.W.exmOne K (.ref C_BadLine) (.ref C_GlimError) = some true
  m_BadWeather_GlimError : PySem.W.exmOne K (.ref C_BadWeather) (.ref C_GlimError) = some true
section
variable {P : Program} {w : World} {K : PySem.W.Frag} {mg : Str → Option Value} {base : Heap} {C_GlimError C_BadLine C_BadWeather C_Lines : Addr}
theorem okx_BadLine (T : Txt K mg C_GlimError C_BadLine C_BadWeather C_Lines) : OKx2 P w K mg base "BadLine" "line" "word" C_BadLine := by
  obtain ⟨fI, fd, h1, h2, F, hb⟩ := T.i_BadLine
  exact ⟨T.c_BadLine, T.o_BadLine, fI, fd, h1, h2, ini_ok2 F sc_BadLine T.o_BadLine T.nf_BadLine_line T.nf_BadLine_word (fun cdv A outer s H E => (pss_cons (ps_ost (pv 0) (pv 1)) (pss_one (ps_ost (pv 0) (pv 2))))), hb⟩
theorem okx_BadWeather (T : Txt K mg C_GlimError C_BadLine C_BadWeather C_Lines) : OKx P w K mg base "BadWeather" "number" C_BadWeather := by
  obtain ⟨fI, fd, h1, h2, F, hb⟩ := T.i_BadWeather
  exact ⟨T.c_BadWeather, T.o_BadWeather, T.nf_BadWeather_number, fI, fd, h1, h2, ini_ok F sc_BadWeather T.o_BadWeather T.nf_BadWeather_number (fun cdv A outer s H E => (pss_one (ps_ost (pv 0) (pv 1)))), hb⟩
end
end K12
namespace K12
open PySem PySem.Spec PyProof.Rows L2 Fg
local macro_rules | `(tactic| walk_at "sq") => `(tactic| first
  | assumption
  | exact .inl (.inl (by assumption))
  | exact .inl (.inl upd_same))
local macro_rules | `(tactic| walk_at "st") => `(tactic| first
  | assumption
  | exact .inl (.inl (by assumption))
  | exact .inl (.inl upd_same))
local macro_rules | `(tactic| walk_at "o") => `(tactic| first
  | omega
  | assumption
  | (simp only [List.length_append, List.length_take, List.length_drop, List.length_cons, List.length_nil, List.length_singleton, List.length_map, List.length_range, Int.toNat_natCast] ; omega))
local macro_rules | `(tactic| walk_at "s") => `(tactic| first
  | (with_reducible refine i_seq ?_)
  | (with_reducible refine i_asg ?_)
  | ((with_reducible refine' i_var ?h1 ?_); (case h1 => rfl))
  | (with_reducible refine i_c ?_)
  | ((with_reducible refine' i_gname' ?h1 ?_); (case h1 => (simp only [List.set_cons_zero, List.set_cons_succ]; rfl)))
  | (with_reducible refine i_op ?_)
  | (with_reducible refine i_ifS ?_)
  | (with_reducible refine i_for ?_)
  | (with_reducible refine i_test ?_)
  | (with_reducible refine i_B ?_)
  | (with_reducible refine i_exbl ?_)
  | (with_reducible refine i_exint ?_)
  | (with_reducible refine i_cb ?_)
  | (with_reducible refine i_nil ?_)
  | (with_reducible refine i_cons ?_)
  | (with_reducible refine i_ret ?_)
  | (with_reducible refine i_sl ?_)
  | (with_reducible refine i_nopart ?_)
  | (with_reducible refine i_part ?_)
  | (with_reducible refine i_add_int ?_)
  | (with_reducible refine i_sub ?_)
  | (with_reducible refine i_lt ?_)
  | ((with_reducible refine' i_mod ?h1 ?_); (case h1 => walk_at "o"))
  | ((with_reducible refine' i_fdiv ?h1 ?_); (case h1 => (refine cdiv_small ?_ ?_ <;> walk_at "o")))
  | ((with_reducible refine' i_sl_to ?h1 ?h2 ?_); (case h1 => walk_at "o"); (case h2 => walk_at "o"))
  | ((with_reducible refine' i_sl_from ?h1 ?h2 ?_); (case h1 => walk_at "o"); (case h2 => walk_at "o"))
  | ((with_reducible refine' i_add_str ?h1 ?_); (case h1 => walk_at "o"))
  | ((with_reducible refine' i_mul_int ?h1 ?_); (case h1 => first | (refine mul_small ?_ ?_ <;> walk_at "o") | (refine mul_smallR ?_ ?_ <;> walk_at "o")))
  | (with_reducible refine i_le ?_)
  | (with_reducible refine i_gt ?_)
  | (with_reducible refine i_ge ?_)
  | (with_reducible refine i_eq_int ?_)
  | (with_reducible refine i_eq_str ?_)
  | (with_reducible refine i_ne_int ?_)
  | (with_reducible refine i_ne_str ?_)
  | (with_reducible refine i_eq_bl ?_)
  | (with_reducible refine i_ne_bl ?_)
  | (with_reducible refine i_in_sg ?_)
  | (with_reducible refine i_notIn_sg ?_)
  | (with_reducible refine i_call ?_)
  | (with_reducible refine i_callS ?_)
  | (with_reducible refine i_sp1 ?_)
  | (with_reducible refine i_sp2 ?_)
  | (with_reducible refine i_sp3 ?_)
  | (with_reducible refine i_sp4 ?_)
  | (with_reducible refine i_sp1' ?_)
  | (with_reducible refine i_sp2' ?_)
  | (with_reducible refine i_sp3' ?_)
  | ((with_reducible refine' i_ix_lst ?h1 ?h2 ?_); (case h1 => walk_at "sq"); (case h2 => first | exact atI_nat rfl | rfl))
  | ((with_reducible refine' i_ix_tup ?h1 ?h2 ?_); (case h1 => walk_at "st"); (case h2 => first | exact atI_nat rfl | rfl))
  | (with_reducible refine i_gsub ?_)
  | (with_reducible refine i_par ?_)
  | (with_reducible refine i_lstRg1 ?_)
  | (with_reducible refine i_app ?_)
  | (with_reducible refine i_par2 ?_)
  | ((with_reducible refine' i_aug ?h1 ?_); (case h1 => rfl))
  | (with_reducible refine i_ipI ?_)
  | ((with_reducible refine' i_gtup2 ?h1 ?_); (case h1 => walk_at "st"))
  | (with_reducible refine i_int_bl ?_)
  | (with_reducible refine i_raise ?_)
  | (with_reducible refine i_mkE ?_)
  | (with_reducible refine i_ex1 ?_)
  | (with_reducible refine i_and ?_)
  | (with_reducible refine i_or ?_)
  | (with_reducible refine i_not ?_)
  | (with_reducible refine i_tt ?_)
  | (with_reducible refine i_ff ?_)
  | (with_reducible refine i_nott ?_)
  | (with_reducible refine i_notf ?_)
  | (with_reducible refine i_andV ?_)
  | (with_reducible refine i_orV ?_)
  | (with_reducible refine i_notV ?_)
  | (with_reducible refine i_ifE ?_)
  | (with_reducible refine i_tup ?_)
  | (with_reducible refine i_lst ?_)
  | (with_reducible refine i_un ?_)
  | (with_reducible refine i_neg ?_)
  | (with_reducible refine i_chain ?_)
  | (with_reducible refine i_next ?_)
  | (with_reducible refine i_retN ?_)
  | (with_reducible refine i_drop ?_)
  | (with_reducible refine i_int_int ?_)
  | (with_reducible refine i_abs ?_)
  | (with_reducible refine i_m1c ?_)
  | (with_reducible refine i_is_non ?_)
  | (with_reducible refine i_is_int ?_)
  | (with_reducible refine i_is_bl ?_)
  | (with_reducible refine i_isn_bl ?_)
  | (with_reducible refine i_is_str ?_)
  | (with_reducible refine i_is_ref ?_)
  | (with_reducible refine i_isn_non ?_)
  | (with_reducible refine i_isn_int ?_)
  | (with_reducible refine i_isn_str ?_)
  | (with_reducible refine i_isn_ref ?_)
  | (with_reducible refine i_len_str ?h1 ?_; (case h1 => walk_at "o"))
  | (with_reducible refine i_callD ?_)
  | (with_reducible refine i_spD2 ?_)
  | (with_reducible refine i_spM1 ?_)
  | (with_reducible refine i_spM2 ?_)
  | (with_reducible refine i_spM3 ?_)
  | (with_reducible refine i_spM4 ?_)
  | (with_reducible refine i_spM3d ?_)
  | (with_reducible refine i_tfld ?_)
  | (with_reducible refine i_sfld ?_)
  | (with_reducible refine i_meth ?_)
  | (with_reducible refine i_make ?_)
  | (with_reducible refine i_spl ?_)
  | (with_reducible refine i_mkE2 ?_)
  | (with_reducible refine i_ex2 ?_)
  | (with_reducible refine i_dget ?_)
  | (with_reducible refine i_tru ?_)
  | (with_reducible refine i_dput ?_)
  | (with_reducible refine i_dnotin ?_)
  | (with_reducible refine i_din ?_)
  | (with_reducible refine i_isi_int_int ?_) | (with_reducible refine i_isi_int_bool ?_) | (with_reducible refine i_isi_int_str ?_) | (with_reducible refine i_isi_int_tuple ?_) | (with_reducible refine i_isi_int_list ?_)
  | (with_reducible refine i_isi_bl_int ?_) | (with_reducible refine i_isi_bl_bool ?_) | (with_reducible refine i_isi_bl_str ?_) | (with_reducible refine i_isi_bl_tuple ?_) | (with_reducible refine i_isi_bl_list ?_)
  | (with_reducible refine i_isi_str_int ?_) | (with_reducible refine i_isi_str_bool ?_) | (with_reducible refine i_isi_str_str ?_) | (with_reducible refine i_isi_str_tuple ?_) | (with_reducible refine i_isi_str_list ?_)
  | (with_reducible refine i_isi_non_int ?_) | (with_reducible refine i_isi_non_bool ?_) | (with_reducible refine i_isi_non_str ?_) | (with_reducible refine i_isi_non_tuple ?_) | (with_reducible refine i_isi_non_list ?_))
local macro_rules | `(tactic| walk_at "go") => `(tactic| (repeat' (walk_at "s")))
local macro_rules | `(tactic| walk_at "n") => `(tactic| simp only [wipe, List.map_cons, List.map_nil, List.set_cons_zero, List.set_cons_succ])
/-! ### draws: the list at a holds a place in the script's cells (at c) and what is left of a great one -/
structure Dd where
  a : Addr
  c : Addr
  ns : List Int
/-- H0: what is known besides -/
def Dr (K : PySem.W.Frag) (d : Dd) (H0 H : Hp) : Prop := Same H0 H ∧ H0 d.a = none ∧ SqL K H0 d.c (d.ns.map V.int) ∧ d.ns.length ≤ 100 ∧ ∃ p b u x s : Int, H d.a = some (.lst [.ref d.c, .int p, .int b, .int u, .int x, .int s]) ∧ 0 ≤ p
section
variable {K : PySem.W.Frag} {d : Dd} {H0 H H' H1 : Hp} {q : Addr} {o o' : HO}
theorem Dr.same (h : Dr K d H0 H) (s : Same H H') : Dr K d H0 H' := by
  obtain ⟨s0, n0, hc, hl, p, b, u, x, sd, ha, hp⟩ := h
  exact ⟨s0.trans s, n0, hc, hl, p, b, u, x, sd, s _ _ ha, hp⟩
theorem Dr.new (h : Dr K d H0 H) (n : H q = none) : Dr K d (upd H0 q o) (upd H q o) := by
  obtain ⟨s0, n0, hc, hl, p, b, u, x, sd, ha, hp⟩ := h
  have nq : d.a ≠ q := ne_of_none ha n
  have s1 : Same H0 (upd H0 q o) := same_upd (s0.free n)
  refine ⟨fun b' o' e => ?_, by rw [upd_ne nq]; exact n0, s1.seq hc, hl, p, b, u, x, sd, by rw [upd_ne nq]; exact ha, hp⟩
  by_cases hb : b' = q
  · rw [hb, upd_same] at e
    rw [hb, upd_same]; exact e
  · rw [upd_ne hb] at e
    rw [upd_ne hb]; exact s0 _ _ e
/-- an object that is known changes -/
theorem Dr.put (h : Dr K d (upd H0 q o) H) (hc : SqL K H0 d.c (d.ns.map V.int)) (n : H0 q = none) : Dr K d (upd H0 q o') (upd H q o') := by
  obtain ⟨s0, n0, _, hl, p, b, u, x, sd, ha, hp⟩ := h
  have nq : d.a ≠ q := fun z => by rw [z, upd_same] at n0; cases n0
  have s1 : Same H0 (upd H0 q o') := same_upd n
  rw [upd_ne nq] at n0
  refine ⟨fun b' o' e => ?_, by rw [upd_ne nq]; exact n0, s1.seq hc, hl, p, b, u, x, sd, by rw [upd_ne nq]; exact ha, hp⟩
  by_cases hb : b' = q
  · rw [hb, upd_same] at e
    rw [hb, upd_same]; exact e
  · rw [upd_ne hb] at e
    rw [upd_ne hb]; exact s0 _ _ (by rw [upd_ne hb]; exact e)
/-- more, or less, is known -/
theorem Dr.know (h : Dr K d H0 H) (s0 : Same H0 H1) (s1 : Same H1 H) (n : H1 d.a = none) : Dr K d H1 H := by
  obtain ⟨_, n0, hc, hl, p, b, u, x, sd, ha, hp⟩ := h
  exact ⟨s1, n, s0.seq hc, hl, p, b, u, x, sd, ha, hp⟩
theorem Dr.less (h : Dr K d (upd H0 q o) H) (hc : SqL K H0 d.c (d.ns.map V.int)) (n : H0 q = none) : Dr K d H0 H := by
  obtain ⟨s0, n0, _, hl, p, b, u, x, sd, ha, hp⟩ := h
  have nq : d.a ≠ q := fun z => by rw [z, upd_same] at n0; cases n0
  rw [upd_ne nq] at n0
  exact ⟨(same_upd n).trans s0, n0, hc, hl, p, b, u, x, sd, ha, hp⟩
theorem Dr.old (h : Dr K d H0 H) (e : H0 q = some o) : H q = some o := h.1 _ _ e
theorem Dr.cells (h : Dr K d H0 H) : SqL K H0 d.c (d.ns.map V.int) := h.2.2.1
theorem Dr.free (h : Dr K d H0 H) (n : H q = none) : H0 q = none := h.1.free n
/-- what a call that leaves all as it was hands back new -/
theorem Dr.got (h : Dr K d H0 H) (n : H q = none) (s : Same H H') (e : H' q = some o) : Dr K d (upd H0 q o) H' := by
  obtain ⟨s0, n0, hc, hl, p, b, u, x, sd, ha, hp⟩ := h
  have nq : d.a ≠ q := ne_of_none ha n
  have s1 : Same H0 (upd H0 q o) := same_upd (s0.free n)
  refine ⟨fun b' o' e' => ?_, by rw [upd_ne nq]; exact n0, s1.seq hc, hl, p, b, u, x, sd, s _ _ ha, hp⟩
  by_cases hb : b' = q
  · rw [hb, upd_same] at e'
    rw [hb, e]; exact e'
  · rw [upd_ne hb] at e'
    exact s _ _ (s0 _ _ e')
end
theorem range_getD (xs : List V) : (List.range xs.length).map (fun i => xs.getD i .non) = xs := by
  refine List.ext_getElem? fun i => ?_
  rw [List.getElem?_map]
  by_cases h : i < xs.length
  · rw [List.getElem?_range h, Option.map_some, List.getD_eq_getElem?_getD, List.getElem?_eq_getElem h]
    rfl
  · rw [List.getElem?_eq_none (by simpa using h), List.getElem?_eq_none (by omega)]
    rfl
def Btw (n many : Int) : Prop := 0 ≤ n ∧ (2 ≤ many → n < many) ∧ (many < 2 → n = 0)
section
variable {P : Program} {w : World} {K : PySem.W.Frag} {mg : Str → Option Value} {base : Heap} {C_GlimError C_BadLine C_BadWeather C_Lines : Addr}
def p_L_draw (K : PySem.W.Frag) : P1 := fun v H Q _ => ∃ (a0 : Addr) (ns : List Int), v = .ref a0 ∧ SqL K H a0 (ns.map V.int) ∧ ns.length ≤ 100 ∧ ∀ H0 d H', Same H H0 → Dr K d H0 H' → Q (.ref d.a) H'
theorem ok_L_draw (T : Txt K mg C_GlimError C_BadLine C_BadWeather C_Lines) : OK P w K mg base CX0 1 "_law_draw" ["_law_script"] (sp1  (p_L_draw K)) := by
  refine OK.mk (k := 0) T.d_L_draw sc_L_draw len1 fun f cdv A outer s H vs Q E hr h => ?_
  obtain ⟨x, rfl, h⟩ := h
  refine ⟨_, (pss_cons (ps_setLc (i := 1) (own := [("_law_cell", 2)]) (g := gName 2) (tt := tYes) (by rfl) sc_L_draw.nd rfl rfl (sw_true rfl rfl rfl (by decide +kernel)) (piAny K (pv 0)) (blkOk_by (own := [("_law_cell", 2)]) (N := ["_law_script", "_law_cells", "_law_cell"]) (sc := (defScope s_L_draw)) (by decide +kernel)) (fun _ _ _ _ _ => (pg_name (i := 2) sc_L_draw.nd rfl (Or.inl rfl))) (fun _ _ _ _ _ => pts_nil) (fun _ _ _ _ _ => (pv 2))) (pss_one (ps_ret (pe_lst (pa_cons (pv 1) (pa_cons pe_int (pa_cons pe_int (pa_cons pe_int (pa_cons pe_int (pa_cons (pe_op (opAdd K) (pe_op op_modP (pe_callTy call_intP (by rfl) T.b_int (by decide +kernel) (pa_cons (pe_callB (cSum K rfl) (by rfl) T.b_sum (by decide +kernel) (pa_cons (pv 1) pa_nil)) pa_nil)) pe_int) (pe_op op_mulP pe_int (pe_callB (cLen K) (by rfl) T.b_len (by decide +kernel) (pa_cons (pv 1) pa_nil)))) pa_nil)))))))))), ?_⟩
  show (_ : TS) { nx := fun _ H' => Q .non H', rt := Q } [some x, none, none] H
  obtain ⟨a0, ns, rfl, hS, hl, q⟩ := h
  walk_at "go"
  refine c_lst (xs := ns.map V.int) (fun R k => by walk_at "go"; exact k) hS (by rw [List.length_map]; omega) (fun _ => true) (fun i => (ns.map V.int).getD i .non) (fun _ => rfl) (fun i v H2 hi s2 QB k => k H2 (Same.refl H2)) (fun i v H2 hi s2 _ QV k => ?_) (fun Dl H2 n2 s2 d2 => ?_)
  · show (_ : TE) [some (.ref a0), none, some v] H2 QV
    walk_at "go"
    have e : v = (ns.map V.int).getD i .non := by rw [List.getD_eq_getElem?_getD, hi]; rfl
    rw [e]
    exact k H2 (Same.refl H2)
  · rw [kept_all, range_getD] at d2
    walk_at "go"
    refine i_sum (ns := ns) (.inl (.inl d2)) ?_
    walk_at "go"
    refine i_len_lst (.inl (.inl d2)) ?_
    walk_at "go"
    refine i_new (by show 6 ≤ 100000; omega) fun a na => ?_
    walk_at "go"
    exact q H2 ⟨a, Dl, ns⟩ _ s2 ⟨same_upd na, na, .inl (.inl d2), hl, _, _, _, _, _, upd_same, Int.le_refl _⟩
def p_L_mix : P2 := fun x y H Q _ => ∃ a b : Int, x = .int a ∧ y = .int b ∧ ∀ r : Int, Q (.int r) H
theorem ok_L_mix (T : Txt K mg C_GlimError C_BadLine C_BadWeather C_Lines) : OK P w K mg base CX0 1 "_law_mix" ["_law_cell", "_law_turn"] (sp2  p_L_mix) := by
  refine OK.mk (k := 0) T.d_L_mix sc_L_mix len2 fun f cdv A outer s H vs Q E hr h => ?_
  obtain ⟨x, y, rfl, h⟩ := h
  refine ⟨_, (pss_cons (ps_set (i := 2) sc_L_mix.nd rfl (Or.inl rfl) (pe_op op_modP (pe_callTy call_intP (by rfl) T.b_int (by decide +kernel) (pa_cons (pe_op (opAdd K) (pe_op (opAdd K) (pe_op op_mulP (pv 0) pe_int) (pe_op op_mulP (pv 1) pe_int)) pe_int) pa_nil)) pe_int)) (pss_cons (ps_set (i := 3) sc_L_mix.nd rfl (Or.inl rfl) (pe_op op_modP (pe_callTy call_intP (by rfl) T.b_int (by decide +kernel) (pa_cons (pe_op (opAdd K) (pe_op (opAdd K) (pe_op op_mulP (pv 2) (pv 2)) (pe_op op_mulP (pv 1) pe_int)) (pv 0)) pa_nil)) pe_int)) (pss_cons (ps_set (i := 3) sc_L_mix.nd rfl (Or.inl rfl) (pe_op op_modP (pe_callTy call_intP (by rfl) T.b_int (by decide +kernel) (pa_cons (pe_op (opAdd K) (pe_op op_mulP (pv 3) (pv 3)) (pv 2)) pa_nil)) pe_int)) (pss_one (ps_ret (pe_op op_fdivP (pv 3) pe_int)))))), ?_⟩
  show (_ : TS) { nx := fun _ H' => Q .non H', rt := Q } [some x, some y, none, none] H
  obtain ⟨c, t, rfl, rfl, q⟩ := h
  walk_at "go"
  have h1 : 0 ≤ (c * 48271 + t * 69621 + 12345) % 2147483647 := Int.emod_nonneg _ (by decide)
  have h2 : (c * 48271 + t * 69621 + 12345) % 2147483647 < 2147483647 := Int.emod_lt_of_pos _ (by decide)
  generalize (c * 48271 + t * 69621 + 12345) % 2147483647 = o at *
  walk_at "go"
  have h3 : 0 ≤ (o * o + t * 7919 + c) % 998244353 := Int.emod_nonneg _ (by decide)
  have h4 : (o * o + t * 7919 + c) % 998244353 < 998244353 := Int.emod_lt_of_pos _ (by decide)
  generalize (o * o + t * 7919 + c) % 998244353 = o2 at *
  walk_at "go"
  exact q _
/-- a number from 0 to less than so many; the draws go on -/
def p_L_pick (K : PySem.W.Frag) : P2 := fun x y H Q _ => ∃ (H0 : Hp) (d : Dd) (many : Int), x = .ref d.a ∧ y = .int many ∧ Dr K d H0 H ∧ many ≤ 10000000000000000000000000000000000000000 ∧ ∀ (n : Int) H', Dr K d H0 H' → Btw n many → Q (.int n) H'
theorem wide_many {b many : Int} (h : 0 < many) (h2 : many ≤ 10000000000000000000000000000000000000000) : CDivW b many := by
  refine wide_div (b := 140) h ?_ (by decide) (by decide)
  have e : (2 : Nat) ^ 140 = 1393796574908163946345982392040522594123776 := by decide +kernel
  rw [e]
  omega
theorem ok_L_pick (T : Txt K mg C_GlimError C_BadLine C_BadWeather C_Lines) : OK P w K mg base CX0 2 "_law_pick" ["_law_draw_here", "_law_many"] (sp2  (p_L_pick K)) := by
  refine OK.mk (k := 1) T.d_L_pick sc_L_pick len2 fun f cdv A outer s H vs Q E hr h => ?_
  obtain ⟨x, y, rfl, h⟩ := h
  refine ⟨_, (pss_cons (ps_if (pt_cmpR op_ltP (pv 1) pe_int (nomark _)) (pss_one (ps_ret pe_int)) pss_nil) (Evl.pss_cut (ps_if (pw_and (pt_cmpR (opEq K hr.units) (pe_ix (ixK K) (pv 0) pe_int (fun _ _ => rfl)) pe_int (nomark _)) (pw_and (pt_cmpR op_ltP (pe_ix (ixK K) (pv 0) pe_int (fun _ _ => rfl)) (pe_callB (cLen K) (by rfl) T.b_len (by decide +kernel) (pa_cons (pe_ix (ixK K) (pv 0) pe_int (fun _ _ => rfl)) pa_nil)) (nomark _)) (pw_and1 (pt_cmpR (opEq K hr.units) (pe_ix (ixK K) (pv 0) pe_int (fun _ _ => rfl)) pe_int (nomark _))))).pt (pss_cons (ps_set (i := 2) sc_L_pick.nd rfl (Or.inl rfl) (pe_ix (ixK K) (pe_ix (ixK K) (pv 0) pe_int (fun _ _ => rfl)) (pe_ix (ixK K) (pv 0) pe_int (fun _ _ => rfl)) (fun _ _ => rfl))) (pss_one (ps_if (pw_or (pt_cmpR op_geP (pv 2) (pe_op op_powP pe_int pe_int) (nomark _)) (pw_or1 (pt_cmpR op_leP (pv 2) (pe_un un_neg (pe_op op_powP pe_int pe_int)) (nomark _)))).pt (pss_cons (ps_asg (pe_op op_modP (pe_callTy call_intP (by rfl) T.b_int (by decide +kernel) (pa_cons (pe_callB call_absP (by rfl) T.b_abs (by decide +kernel) (pa_cons (pv 2) pa_nil)) pa_nil)) (pe_op op_powP (pe_op op_powP pe_int pe_int) pe_int)) (pg_sub (pv 0) pe_int set_list)) (pss_one (ps_asg (pe_op (opAdd K) (pe_ix (ixK K) (pv 0) pe_int (fun _ _ => rfl)) pe_int) (pg_sub (pv 0) pe_int set_list)))) pss_nil))) pss_nil) (pss_cons (ps_if (pt_cmpR op_gtP (pe_ix (ixK K) (pv 0) pe_int (fun _ _ => rfl)) pe_int (nomark _)) (pss_cons (ps_set (i := 3) sc_L_pick.nd rfl (Or.inl rfl) (pe_op op_modP (pe_callTy call_intP (by rfl) T.b_int (by decide +kernel) (pa_cons (pe_ix (ixK K) (pv 0) pe_int (fun _ _ => rfl)) pa_nil)) (pv 1))) (pss_cons (ps_asg (pe_op op_fdivP (pe_ix (ixK K) (pv 0) pe_int (fun _ _ => rfl)) (pv 1)) (pg_sub (pv 0) pe_int set_list)) (pss_one (ps_ret (pv 3))))) pss_nil) (pss_cons (ps_if (pt_cmpR op_ltP (pe_ix (ixK K) (pv 0) pe_int (fun _ _ => rfl)) (pe_callB (cLen K) (by rfl) T.b_len (by decide +kernel) (pa_cons (pe_ix (ixK K) (pv 0) pe_int (fun _ _ => rfl)) pa_nil)) (nomark _)) (pss_cons (ps_set (i := 2) sc_L_pick.nd rfl (Or.inl rfl) (pe_ix (ixK K) (pe_ix (ixK K) (pv 0) pe_int (fun _ _ => rfl)) (pe_ix (ixK K) (pv 0) pe_int (fun _ _ => rfl)) (fun _ _ => rfl))) (pss_cons (ps_asg (pe_op (opAdd K) (pe_ix (ixK K) (pv 0) pe_int (fun _ _ => rfl)) pe_int) (pg_sub (pv 0) pe_int set_list)) (pss_cons (ps_set (i := 4) sc_L_pick.nd rfl (Or.inl rfl) (pe_op op_modP (pe_callTy call_intP (by rfl) T.b_int (by decide +kernel) (pa_cons (pe_f (ok_L_mix (K := K) T) (hr.mono (by decide)) pass0 (pa_cons (pe_op (opAdd K) (pv 2) (pe_op op_mulP pe_int (pe_ix (ixK K) (pv 0) pe_int (fun _ _ => rfl)))) (pa_cons (pe_ix (ixK K) (pv 0) pe_int (fun _ _ => rfl)) pa_nil))) pa_nil)) (pv 1))) (Evl.pss_cut (ps_if (pt_cmpR (opEq K hr.units) (pe_ix (ixK K) (pv 0) pe_int (fun _ _ => rfl)) pe_int (nomark _)) (pss_cons (ps_asg pe_int (pg_sub (pv 0) pe_int set_list)) (pss_one (ps_asg (pe_op (opAdd K) (pe_ix (ixK K) (pv 0) pe_int (fun _ _ => rfl)) pe_int) (pg_sub (pv 0) pe_int set_list)))) pss_nil) (pss_one (ps_ret (pv 4))))))) pss_nil) (pss_cons (ps_asg (pe_op (opAdd K) (pe_ix (ixK K) (pv 0) pe_int (fun _ _ => rfl)) pe_int) (pg_sub (pv 0) pe_int set_list)) (pss_one (ps_ret (pe_op op_modP (pe_callTy call_intP (by rfl) T.b_int (by decide +kernel) (pa_cons (pe_f (ok_L_mix (K := K) T) (hr.mono (by decide)) pass0 (pa_cons (pe_ix (ixK K) (pv 0) pe_int (fun _ _ => rfl)) (pa_cons (pe_op (opAdd K) (pe_ix (ixK K) (pv 0) pe_int (fun _ _ => rfl)) pe_int) pa_nil))) pa_nil)) (pv 1))))))))), ?_⟩
  show (_ : TS) { nx := fun _ H' => Q .non H', rt := Q } [some x, some y, none, none, none] H
  obtain ⟨H0, d, many, rfl, rfl, dr, hmax, q⟩ := h
  walk_at "go"
  refine i_dec (fun e => ?_) (fun e => ?_)
  · walk_at "go"
    exact q 0 H dr ⟨Int.le_refl _, fun z => by omega, fun _ => rfl⟩
  walk_at "go"
  have hpos : 0 < many := by omega
  -- a great cell is taken up
  refine i_cut (fun σ H' => ∃ v2 v3 v4, σ = [some (.ref d.a), some (.int many), v2, v3, v4] ∧ Dr K d H0 H') ?_ ?_
  · obtain ⟨a, c, ns⟩ := d
    obtain ⟨s0, n0, hC, hl, p, b, u, x, sd, hA, hp⟩ := id dr
    dsimp only at *
    have hC' : SqL K H c (ns.map V.int) := s0.seq hC
    have skip : ∃ v2 v3 v4, ([some (.ref a), some (.int many), none, none, none] : L2.St) = [some (.ref a), some (.int many), v2, v3, v4] ∧ Dr K ⟨a, c, ns⟩ H0 H := ⟨_, _, _, rfl, dr⟩
    walk_at "go"
    refine i_dec (fun e1 => ?_) (fun e1 => skip)
    walk_at "go"
    refine i_len_lst hC' ?_
    walk_at "go"
    refine i_dec (fun e2 => ?_) (fun e2 => skip)
    walk_at "go"
    refine i_dec (fun e3 => ?_) (fun e3 => skip)
    walk_at "go"
    rw [List.length_map] at e2
    have hpl : p.toNat < ns.length := by omega
    refine i_ix_lst (v := .int ns[p.toNat]) hC' (atI_int hp (by rw [List.getElem?_map, List.getElem?_eq_getElem hpl]; rfl)) ?_
    walk_at "go"
    refine i_pow (by decide +kernel) ?_
    walk_at "go"
    have fin : ∃ v2 v3 v4, ([some (.ref a), some (.int many), some (.int ns[p.toNat]), none, none] : L2.St) = [some (.ref a), some (.int many), v2, v3, v4] ∧ Dr K ⟨a, c, ns⟩ H0 H := ⟨_, _, _, rfl, dr⟩
    refine i_dec (fun e4 => ?_) (fun e4 => ?_)
    case' refine_2 =>
      walk_at "go"
      refine i_pow (by decide +kernel) ?_
      walk_at "go"
      refine i_dec (fun e5 => ?_) (fun e5 => fin)
    all_goals
      walk_at "go"
      refine i_pow (by decide +kernel) ?_
      walk_at "go"
      refine i_pow (by decide +kernel) ?_
      walk_at "go"
      refine i_mod (by decide +kernel) ?_
      walk_at "go"
      refine i_setL 2 hA rfl rfl ?_
      walk_at "go"
      refine i_setL 1 upd_same rfl rfl ?_
      walk_at "go"
      rw [upd_upd]
      exact ⟨_, _, _, rfl, Same.upd s0 n0, n0, hC, hl, _, _, _, _, _, upd_same, by omega⟩
  · rintro σ H1 ⟨v2, v3, v4, rfl, d1⟩
    obtain ⟨a, c, ns⟩ := d
    obtain ⟨s0, n0, hC, hl, p, b, u, x, sd, hA, hp⟩ := id d1
    dsimp only at *
    have hC' : SqL K H1 c (ns.map V.int) := s0.seq hC
    have put : ∀ {p' b' u' x' s' : Int}, 0 ≤ p' → Dr K ⟨a, c, ns⟩ H0 (upd H1 a (.lst [.ref c, .int p', .int b', .int u', .int x', .int s'])) := fun h => ⟨Same.upd s0 n0, n0, hC, hl, _, _, _, _, _, upd_same, h⟩
    have btw : ∀ r : Int, Btw (r % many) many := fun r => ⟨Int.emod_nonneg _ (by omega), fun _ => Int.emod_lt_of_pos _ hpos, fun z => by omega⟩
    walk_at "go"
    refine i_dec (fun e1 => ?_) (fun e1 => ?_)
    · -- a digit of the great one
      walk_at "go"
      refine i_fdiv (wide_many hpos hmax) ?_
      walk_at "go"
      refine i_setL 2 hA rfl rfl ?_
      walk_at "go"
      exact q _ _ (put hp) (btw _)
    walk_at "go"
    refine i_len_lst hC' ?_
    walk_at "go"
    rw [List.length_map]
    refine i_dec (fun e2 => ?_) (fun e2 => ?_)
    · have hpl : p.toNat < ns.length := by omega
      walk_at "go"
      refine i_ix_lst (v := .int ns[p.toNat]) hC' (atI_int hp (by rw [List.getElem?_map, List.getElem?_eq_getElem hpl]; rfl)) ?_
      walk_at "go"
      refine i_setL 3 hA rfl rfl ?_
      walk_at "go"
      refine ⟨_, _, rfl, rfl, fun r => ?_⟩
      walk_at "go"
      refine i_cut (fun σ H' => ∃ v3, σ = [some (.ref a), some (.int many), some (.int ns[p.toNat]), v3, some (.int (r % many))] ∧ Dr K ⟨a, c, ns⟩ H0 H') ?_ ?_
      · walk_at "go"
        refine i_dec (fun e3 => ?_) (fun e3 => ⟨_, rfl, put hp⟩)
        walk_at "go"
        refine i_setL 3 upd_same rfl rfl ?_
        walk_at "go"
        refine i_setL 1 upd_same rfl rfl ?_
        walk_at "go"
        rw [upd_upd, upd_upd]
        exact ⟨_, rfl, put (by omega)⟩
      · rintro σ H2 ⟨v3, rfl, d2⟩
        walk_at "go"
        exact q _ _ d2 (btw _)
    · walk_at "go"
      refine i_setL 4 hA rfl rfl ?_
      walk_at "go"
      refine ⟨_, _, rfl, rfl, fun r => ?_⟩
      walk_at "go"
      exact q _ _ (put hp) (btw _)
end
end K12
namespace K12
open PySem PySem.Spec PyProof.Rows L2 Fg
local macro_rules | `(tactic| walk_at "sq") => `(tactic| first
  | assumption
  | exact .inl (.inl (by assumption))
  | exact .inl (.inl upd_same))
local macro_rules | `(tactic| walk_at "st") => `(tactic| first
  | assumption
  | exact .inl (.inl (by assumption))
  | exact .inl (.inl upd_same))
local macro_rules | `(tactic| walk_at "o") => `(tactic| first
  | omega
  | assumption
  | (simp only [List.length_append, List.length_take, List.length_drop, List.length_cons, List.length_nil, List.length_singleton, List.length_map, List.length_range, Int.toNat_natCast] ; omega))
local macro_rules | `(tactic| walk_at "s") => `(tactic| first
  | (with_reducible refine i_seq ?_)
  | (with_reducible refine i_asg ?_)
  | ((with_reducible refine' i_var ?h1 ?_); (case h1 => rfl))
  | (with_reducible refine i_c ?_)
  | ((with_reducible refine' i_gname' ?h1 ?_); (case h1 => (simp only [List.set_cons_zero, List.set_cons_succ]; rfl)))
  | (with_reducible refine i_op ?_)
  | (with_reducible refine i_ifS ?_)
  | (with_reducible refine i_for ?_)
  | (with_reducible refine i_test ?_)
  | (with_reducible refine i_B ?_)
  | (with_reducible refine i_exbl ?_)
  | (with_reducible refine i_exint ?_)
  | (with_reducible refine i_cb ?_)
  | (with_reducible refine i_nil ?_)
  | (with_reducible refine i_cons ?_)
  | (with_reducible refine i_ret ?_)
  | (with_reducible refine i_sl ?_)
  | (with_reducible refine i_nopart ?_)
  | (with_reducible refine i_part ?_)
  | (with_reducible refine i_add_int ?_)
  | (with_reducible refine i_sub ?_)
  | (with_reducible refine i_lt ?_)
  | ((with_reducible refine' i_mod ?h1 ?_); (case h1 => walk_at "o"))
  | ((with_reducible refine' i_fdiv ?h1 ?_); (case h1 => (refine cdiv_small ?_ ?_ <;> walk_at "o")))
  | ((with_reducible refine' i_sl_to ?h1 ?h2 ?_); (case h1 => walk_at "o"); (case h2 => walk_at "o"))
  | ((with_reducible refine' i_sl_from ?h1 ?h2 ?_); (case h1 => walk_at "o"); (case h2 => walk_at "o"))
  | ((with_reducible refine' i_add_str ?h1 ?_); (case h1 => walk_at "o"))
  | ((with_reducible refine' i_mul_int ?h1 ?_); (case h1 => first | (refine mul_small ?_ ?_ <;> walk_at "o") | (refine mul_smallR ?_ ?_ <;> walk_at "o")))
  | (with_reducible refine i_le ?_)
  | (with_reducible refine i_gt ?_)
  | (with_reducible refine i_ge ?_)
  | (with_reducible refine i_eq_int ?_)
  | (with_reducible refine i_eq_str ?_)
  | (with_reducible refine i_ne_int ?_)
  | (with_reducible refine i_ne_str ?_)
  | (with_reducible refine i_eq_bl ?_)
  | (with_reducible refine i_ne_bl ?_)
  | (with_reducible refine i_in_sg ?_)
  | (with_reducible refine i_notIn_sg ?_)
  | (with_reducible refine i_call ?_)
  | (with_reducible refine i_callS ?_)
  | (with_reducible refine i_sp1 ?_)
  | (with_reducible refine i_sp2 ?_)
  | (with_reducible refine i_sp3 ?_)
  | (with_reducible refine i_sp4 ?_)
  | (with_reducible refine i_sp1' ?_)
  | (with_reducible refine i_sp2' ?_)
  | (with_reducible refine i_sp3' ?_)
  | ((with_reducible refine' i_ix_lst ?h1 ?h2 ?_); (case h1 => walk_at "sq"); (case h2 => first | exact atI_nat rfl | rfl))
  | ((with_reducible refine' i_ix_tup ?h1 ?h2 ?_); (case h1 => walk_at "st"); (case h2 => first | exact atI_nat rfl | rfl))
  | (with_reducible refine i_gsub ?_)
  | (with_reducible refine i_par ?_)
  | (with_reducible refine i_lstRg1 ?_)
  | (with_reducible refine i_app ?_)
  | (with_reducible refine i_par2 ?_)
  | ((with_reducible refine' i_aug ?h1 ?_); (case h1 => rfl))
  | (with_reducible refine i_ipI ?_)
  | ((with_reducible refine' i_gtup2 ?h1 ?_); (case h1 => walk_at "st"))
  | (with_reducible refine i_int_bl ?_)
  | (with_reducible refine i_raise ?_)
  | (with_reducible refine i_mkE ?_)
  | (with_reducible refine i_ex1 ?_)
  | (with_reducible refine i_and ?_)
  | (with_reducible refine i_or ?_)
  | (with_reducible refine i_not ?_)
  | (with_reducible refine i_tt ?_)
  | (with_reducible refine i_ff ?_)
  | (with_reducible refine i_nott ?_)
  | (with_reducible refine i_notf ?_)
  | (with_reducible refine i_andV ?_)
  | (with_reducible refine i_orV ?_)
  | (with_reducible refine i_notV ?_)
  | (with_reducible refine i_ifE ?_)
  | (with_reducible refine i_tup ?_)
  | (with_reducible refine i_lst ?_)
  | (with_reducible refine i_un ?_)
  | (with_reducible refine i_neg ?_)
  | (with_reducible refine i_chain ?_)
  | (with_reducible refine i_next ?_)
  | (with_reducible refine i_retN ?_)
  | (with_reducible refine i_drop ?_)
  | (with_reducible refine i_int_int ?_)
  | (with_reducible refine i_abs ?_)
  | (with_reducible refine i_m1c ?_)
  | (with_reducible refine i_is_non ?_)
  | (with_reducible refine i_is_int ?_)
  | (with_reducible refine i_is_bl ?_)
  | (with_reducible refine i_isn_bl ?_)
  | (with_reducible refine i_is_str ?_)
  | (with_reducible refine i_is_ref ?_)
  | (with_reducible refine i_isn_non ?_)
  | (with_reducible refine i_isn_int ?_)
  | (with_reducible refine i_isn_str ?_)
  | (with_reducible refine i_isn_ref ?_)
  | (with_reducible refine i_len_str ?h1 ?_; (case h1 => walk_at "o"))
  | (with_reducible refine i_callD ?_)
  | (with_reducible refine i_spD2 ?_)
  | (with_reducible refine i_spM1 ?_)
  | (with_reducible refine i_spM2 ?_)
  | (with_reducible refine i_spM3 ?_)
  | (with_reducible refine i_spM4 ?_)
  | (with_reducible refine i_spM3d ?_)
  | (with_reducible refine i_tfld ?_)
  | (with_reducible refine i_sfld ?_)
  | (with_reducible refine i_meth ?_)
  | (with_reducible refine i_make ?_)
  | (with_reducible refine i_spl ?_)
  | (with_reducible refine i_mkE2 ?_)
  | (with_reducible refine i_ex2 ?_)
  | (with_reducible refine i_dget ?_)
  | (with_reducible refine i_tru ?_)
  | (with_reducible refine i_dput ?_)
  | (with_reducible refine i_dnotin ?_)
  | (with_reducible refine i_din ?_)
  | (with_reducible refine i_isi_int_int ?_) | (with_reducible refine i_isi_int_bool ?_) | (with_reducible refine i_isi_int_str ?_) | (with_reducible refine i_isi_int_tuple ?_) | (with_reducible refine i_isi_int_list ?_)
  | (with_reducible refine i_isi_bl_int ?_) | (with_reducible refine i_isi_bl_bool ?_) | (with_reducible refine i_isi_bl_str ?_) | (with_reducible refine i_isi_bl_tuple ?_) | (with_reducible refine i_isi_bl_list ?_)
  | (with_reducible refine i_isi_str_int ?_) | (with_reducible refine i_isi_str_bool ?_) | (with_reducible refine i_isi_str_str ?_) | (with_reducible refine i_isi_str_tuple ?_) | (with_reducible refine i_isi_str_list ?_)
  | (with_reducible refine i_isi_non_int ?_) | (with_reducible refine i_isi_non_bool ?_) | (with_reducible refine i_isi_non_str ?_) | (with_reducible refine i_isi_non_tuple ?_) | (with_reducible refine i_isi_non_list ?_))
local macro_rules | `(tactic| walk_at "go") => `(tactic| (repeat' (walk_at "s")))
local macro_rules | `(tactic| walk_at "n") => `(tactic| simp only [wipe, List.map_cons, List.map_nil, List.set_cons_zero, List.set_cons_succ])
/-! ### plain values -/
def isIn : PyData → Int → Int → Bool
  | .int i, lo, hi => decide (lo ≤ i) && decide (i ≤ hi)
  | _, _, _ => false
theorem isIn_int (i lo hi : Int) : isIn (.int i) lo hi = (decide (lo ≤ i) && decide (i ≤ hi)) := rfl
section
variable {P : Program} {w : World} {K : PySem.W.Frag} {mg : Str → Option Value} {base : Heap} {C_GlimError C_BadLine C_BadWeather C_Lines : Addr}
def p_is_integer : P3 := fun x y z H Q _ => ∃ d lo hi, At H x d ∧ y = .int lo ∧ z = .int hi ∧ Q (.bl (isIn d lo hi)) H
theorem ok_is_integer (T : Txt K mg C_GlimError C_BadLine C_BadWeather C_Lines) : OK P w K mg base CX0 1 "is_integer" ["thing", "low", "high"] (sp3  p_is_integer) := by
  refine OK.mk (k := 0) T.d_is_integer sc_is_integer len3 fun f cdv A outer s H vs Q E hr h => ?_
  obtain ⟨x, y, z, rfl, h⟩ := h
  refine ⟨_, (pss_cons (ps_if (pw_or (pt_val (pe_callB (cIsi K) (by rfl) T.b_isinstance (by decide +kernel) (pa_cons (pv 0) (pa_cons (pe_bltn (v := .ty "bool") (by rfl) T.b_bool (by decide +kernel) rfl) pa_nil)))) (pw_or1 (pt_not (pt_val (pe_callB (cIsi K) (by rfl) T.b_isinstance (by decide +kernel) (pa_cons (pv 0) (pa_cons (pe_bltn (v := .ty "int") (by rfl) T.b_int (by decide +kernel) rfl) pa_nil))))))).pt (pss_one (ps_ret pe_bl)) pss_nil) (pss_one (ps_ret (pe_chain op_leP op_leP (pv 1) (pv 0) (pv 2))))), ?_⟩
  show (_ : TS) { nx := fun _ H' => Q .non H', rt := Q } [some x, some y, some z] H
  obtain ⟨d, lo, hi, hx, rfl, rfl, q⟩ := h
  cases d
  case int i =>
    obtain rfl := hx.intd
    rw [isIn_int] at q
    walk_at "go"
    refine i_dec (fun e => ?_) (fun e => ?_)
    · walk_at "go"
      rw [decide_eq_true e, Bool.true_and] at q
      exact q
    · rw [decide_eq_false e, Bool.false_and] at q
      exact q
  case bool b =>
    walk_at "go"
    refine i_isiBool true hx rfl ?_
    walk_at "go"
    exact q
  all_goals
    walk_at "go"
    refine i_isiBool false hx rfl ?_
    walk_at "go"
    refine i_isiInt false hx rfl ?_
    walk_at "go"
    exact q
def p_deepN (n : Nat) : P2 := fun x y H Q _ => ∃ A d z, Same A H ∧ At A x d ∧ y = .int z ∧ 0 ≤ z ∧ z + n ≤ 65 ∧ d.depth < n ∧ ∀ A' H' v, Ext A H A' H' → At A' v (deepD d) → Q v H'
theorem deep_n (T : Txt K mg C_GlimError C_BadLine C_BadWeather C_Lines) (n : Nat) (R : OK P w K mg base CX0 n "deep" ["thing", "level"] (sp2 (p_deepN n))) : OKD P w K mg base CX0 (n + 1) "deep" ["thing", "level"] [.int 0] (sp2 (p_deepN (n + 1))) := by
  refine OKD.mk (k := n) T.d_deep sc_deep len2 fun f cdv A outer s H vs Q E hr h => ?_
  obtain ⟨x, y, rfl, h⟩ := h
  refine ⟨_, (pss_cons (ps_if (pw_and (pt_val (pe_callB (cIsiT K) (by rfl) T.b_isinstance (by decide +kernel) (pa_cons (pv 0) (pa_cons (pe_tup (pa_cons (pe_bltn (v := .ty "list") (by rfl) T.b_list (by decide +kernel) rfl) (pa_cons (pe_bltn (v := .ty "tuple") (by rfl) T.b_tuple (by decide +kernel) rfl) pa_nil))) pa_nil)))) (pw_and1 (pt_cmpR op_ltP (pv 1) (pe_gI 70 T.g_MOST_LEVELS) (nomark _)))).pt (pss_one (ps_ret (pe_callTy (cTup K) (by rfl) T.b_tuple (by decide +kernel) (pa_cons (pe_lc (own := [("part", 2)]) (g := gName 2) (tt := tYes) (by rfl) sc_deep.nd (piAny K (pv 0)) (blkOk_by (own := [("part", 2)]) (N := ["thing", "level", "part"]) (sc := (defScope s_deep)) (by decide +kernel)) (fun _ _ _ _ _ => (pg_name (i := 2) sc_deep.nd rfl (Or.inl rfl))) (fun _ _ _ _ _ => pts_nil) (fun _ _ _ _ _ => (pe_f R (hr.mono (by omega)) pass0 (pa_cons (pv 2) (pa_cons (pe_op (opAdd K) (pv 1) pe_int) pa_nil))))) pa_nil)))) pss_nil) (pss_one (ps_ret (pv 0)))), ?_⟩
  show (_ : TS) { nx := fun _ H' => Q .non H', rt := Q } [some x, some y, none] H
  obtain ⟨A, d, z, sa, hx, rfl, z0, zn, dd, q⟩ := h
  walk_at "go"
  refine i_new (by show 2 ≤ 100000; omega) fun tp ntp => ?_
  have x1 := (Ext.refl sa).hid (o := .tup [.ty "list", .ty "tuple"]) ntp
  walk_at "go"
  cases d
  case list ds =>
    obtain ⟨a, xs, rfl, hH, hl, al⟩ := hx.listed
    have e1 : deepD (.list ds) = .tuple (ds.map deepD) := by rw [← deepDs_map]; rfl
    have d1 : PyData.depthAll ds + 1 < n + 1 := dd
    rw [e1] at q
    refine i_isiSeq true (x1.up hx) upd_same rfl ?_
    walk_at "go"
    rw [decide_eq_true (show z < 70 by omega)]
    walk_at "go"
    refine c_lstD x1.ag (fun R k => by walk_at "go"; exact k) (.inl (.inl (x1.ag _ _ hH))) al hl deepD (fun _ => rfl) (fun y d A1 G1 hd hy y1 QV k => ?_) (fun Dl A1 G1 l y1 e ea al2 ll => ?_)
    · show (_ : TE) [some (.ref a), some (.int z), some y] G1 QV
      have d2 := depth_mem hd
      walk_at "go"
      exact ⟨A1, d, z + 1, y1.ag, hy, rfl, by omega, by omega, by omega, k⟩
    · walk_at "go"
      refine i_tuple_lst (.inl (.inl e)) fun tl ntl => ?_
      have na : A1 tl = none := y1.ag.free ntl
      have hds := al.len
      exact q _ _ _ ((x1.trans y1).new ntl) (At.mkTup upd_same (al2.same (same_upd na)) (by rw [List.length_map]; omega))
  case tuple ds =>
    obtain ⟨a, xs, rfl, hH, hl, al⟩ := hx.tupled
    have e1 : deepD (.tuple ds) = .tuple (ds.map deepD) := by rw [← deepDs_map]; rfl
    have d1 : PyData.depthAll ds + 1 < n + 1 := dd
    rw [e1] at q
    refine i_isiSeq true (x1.up hx) upd_same rfl ?_
    walk_at "go"
    rw [decide_eq_true (show z < 70 by omega)]
    walk_at "go"
    refine c_tupD x1.ag (fun R k => by walk_at "go"; exact k) (.inl (.inl (x1.ag _ _ hH))) al hl deepD (fun _ => rfl) (fun y d A1 G1 hd hy y1 QV k => ?_) (fun Dl A1 G1 l y1 e ea al2 ll => ?_)
    · show (_ : TE) [some (.ref a), some (.int z), some y] G1 QV
      have d2 := depth_mem hd
      walk_at "go"
      exact ⟨A1, d, z + 1, y1.ag, hy, rfl, by omega, by omega, by omega, k⟩
    · walk_at "go"
      refine i_tuple_lst (.inl (.inl e)) fun tl ntl => ?_
      have na : A1 tl = none := y1.ag.free ntl
      have hds := al.len
      exact q _ _ _ ((x1.trans y1).new ntl) (At.mkTup upd_same (al2.same (same_upd na)) (by rw [List.length_map]; omega))
  all_goals
    refine i_isiSeq false (x1.up hx) upd_same rfl ?_
    walk_at "go"
    exact q _ _ _ x1 hx
theorem deep_all (T : Txt K mg C_GlimError C_BadLine C_BadWeather C_Lines) : ∀ n, OK P w K mg base CX0 n "deep" ["thing", "level"] (sp2 (p_deepN n))
  | 0 => OK.weak (OK.never T.d_deep) fun vs H Q E h => by
    obtain ⟨_, _, _, _, _, _, _, _, _, _, z, _⟩ := h
    omega
  | n + 1 => (deep_n T n (deep_all T n)).full
theorem ok_deep (T : Txt K mg C_GlimError C_BadLine C_BadWeather C_Lines) : OKD P w K mg base CX0 6 "deep" ["thing", "level"] [.int 0] (sp2 (p_deepN 6)) := deep_n T 5 (deep_all T 5)
end
end K12
namespace K12
open PySem PySem.Spec PyProof.Rows L2 Fg
local macro_rules | `(tactic| walk_at "sq") => `(tactic| first
  | assumption
  | exact .inl (.inl (by assumption))
  | exact .inl (.inl upd_same))
local macro_rules | `(tactic| walk_at "st") => `(tactic| first
  | assumption
  | exact .inl (.inl (by assumption))
  | exact .inl (.inl upd_same))
local macro_rules | `(tactic| walk_at "o") => `(tactic| first
  | omega
  | assumption
  | (simp only [List.length_append, List.length_take, List.length_drop, List.length_cons, List.length_nil, List.length_singleton, List.length_map, List.length_range, Int.toNat_natCast] ; omega))
local macro_rules | `(tactic| walk_at "s") => `(tactic| first
  | (with_reducible refine i_seq ?_)
  | (with_reducible refine i_asg ?_)
  | ((with_reducible refine' i_var ?h1 ?_); (case h1 => rfl))
  | (with_reducible refine i_c ?_)
  | ((with_reducible refine' i_gname' ?h1 ?_); (case h1 => (simp only [List.set_cons_zero, List.set_cons_succ]; rfl)))
  | (with_reducible refine i_op ?_)
  | (with_reducible refine i_ifS ?_)
  | (with_reducible refine i_for ?_)
  | (with_reducible refine i_test ?_)
  | (with_reducible refine i_B ?_)
  | (with_reducible refine i_exbl ?_)
  | (with_reducible refine i_exint ?_)
  | (with_reducible refine i_cb ?_)
  | (with_reducible refine i_nil ?_)
  | (with_reducible refine i_cons ?_)
  | (with_reducible refine i_ret ?_)
  | (with_reducible refine i_sl ?_)
  | (with_reducible refine i_nopart ?_)
  | (with_reducible refine i_part ?_)
  | (with_reducible refine i_add_int ?_)
  | (with_reducible refine i_sub ?_)
  | (with_reducible refine i_lt ?_)
  | ((with_reducible refine' i_mod ?h1 ?_); (case h1 => walk_at "o"))
  | ((with_reducible refine' i_fdiv ?h1 ?_); (case h1 => (refine cdiv_small ?_ ?_ <;> walk_at "o")))
  | ((with_reducible refine' i_sl_to ?h1 ?h2 ?_); (case h1 => walk_at "o"); (case h2 => walk_at "o"))
  | ((with_reducible refine' i_sl_from ?h1 ?h2 ?_); (case h1 => walk_at "o"); (case h2 => walk_at "o"))
  | ((with_reducible refine' i_add_str ?h1 ?_); (case h1 => walk_at "o"))
  | ((with_reducible refine' i_mul_int ?h1 ?_); (case h1 => first | (refine mul_small ?_ ?_ <;> walk_at "o") | (refine mul_smallR ?_ ?_ <;> walk_at "o")))
  | (with_reducible refine i_le ?_)
  | (with_reducible refine i_gt ?_)
  | (with_reducible refine i_ge ?_)
  | (with_reducible refine i_eq_int ?_)
  | (with_reducible refine i_eq_str ?_)
  | (with_reducible refine i_ne_int ?_)
  | (with_reducible refine i_ne_str ?_)
  | (with_reducible refine i_eq_bl ?_)
  | (with_reducible refine i_ne_bl ?_)
  | (with_reducible refine i_in_sg ?_)
  | (with_reducible refine i_notIn_sg ?_)
  | (with_reducible refine i_call ?_)
  | (with_reducible refine i_callS ?_)
  | (with_reducible refine i_sp1 ?_)
  | (with_reducible refine i_sp2 ?_)
  | (with_reducible refine i_sp3 ?_)
  | (with_reducible refine i_sp4 ?_)
  | (with_reducible refine i_sp1' ?_)
  | (with_reducible refine i_sp2' ?_)
  | (with_reducible refine i_sp3' ?_)
  | ((with_reducible refine' i_ix_lst ?h1 ?h2 ?_); (case h1 => walk_at "sq"); (case h2 => first | exact atI_nat rfl | rfl))
  | ((with_reducible refine' i_ix_tup ?h1 ?h2 ?_); (case h1 => walk_at "st"); (case h2 => first | exact atI_nat rfl | rfl))
  | (with_reducible refine i_gsub ?_)
  | (with_reducible refine i_par ?_)
  | (with_reducible refine i_lstRg1 ?_)
  | (with_reducible refine i_app ?_)
  | (with_reducible refine i_par2 ?_)
  | ((with_reducible refine' i_aug ?h1 ?_); (case h1 => rfl))
  | (with_reducible refine i_ipI ?_)
  | ((with_reducible refine' i_gtup2 ?h1 ?_); (case h1 => walk_at "st"))
  | (with_reducible refine i_int_bl ?_)
  | (with_reducible refine i_raise ?_)
  | (with_reducible refine i_mkE ?_)
  | (with_reducible refine i_ex1 ?_)
  | (with_reducible refine i_and ?_)
  | (with_reducible refine i_or ?_)
  | (with_reducible refine i_not ?_)
  | (with_reducible refine i_tt ?_)
  | (with_reducible refine i_ff ?_)
  | (with_reducible refine i_nott ?_)
  | (with_reducible refine i_notf ?_)
  | (with_reducible refine i_andV ?_)
  | (with_reducible refine i_orV ?_)
  | (with_reducible refine i_notV ?_)
  | (with_reducible refine i_ifE ?_)
  | (with_reducible refine i_tup ?_)
  | (with_reducible refine i_lst ?_)
  | (with_reducible refine i_un ?_)
  | (with_reducible refine i_neg ?_)
  | (with_reducible refine i_chain ?_)
  | (with_reducible refine i_next ?_)
  | (with_reducible refine i_retN ?_)
  | (with_reducible refine i_drop ?_)
  | (with_reducible refine i_int_int ?_)
  | (with_reducible refine i_abs ?_)
  | (with_reducible refine i_m1c ?_)
  | (with_reducible refine i_is_non ?_)
  | (with_reducible refine i_is_int ?_)
  | (with_reducible refine i_is_bl ?_)
  | (with_reducible refine i_isn_bl ?_)
  | (with_reducible refine i_is_str ?_)
  | (with_reducible refine i_is_ref ?_)
  | (with_reducible refine i_isn_non ?_)
  | (with_reducible refine i_isn_int ?_)
  | (with_reducible refine i_isn_str ?_)
  | (with_reducible refine i_isn_ref ?_)
  | (with_reducible refine i_len_str ?h1 ?_; (case h1 => walk_at "o"))
  | (with_reducible refine i_callD ?_)
  | (with_reducible refine i_spD2 ?_)
  | (with_reducible refine i_spM1 ?_)
  | (with_reducible refine i_spM2 ?_)
  | (with_reducible refine i_spM3 ?_)
  | (with_reducible refine i_spM4 ?_)
  | (with_reducible refine i_spM3d ?_)
  | (with_reducible refine i_tfld ?_)
  | (with_reducible refine i_sfld ?_)
  | (with_reducible refine i_meth ?_)
  | (with_reducible refine i_make ?_)
  | (with_reducible refine i_spl ?_)
  | (with_reducible refine i_mkE2 ?_)
  | (with_reducible refine i_ex2 ?_)
  | (with_reducible refine i_dget ?_)
  | (with_reducible refine i_tru ?_)
  | (with_reducible refine i_dput ?_)
  | (with_reducible refine i_dnotin ?_)
  | (with_reducible refine i_din ?_)
  | (with_reducible refine i_isi_int_int ?_) | (with_reducible refine i_isi_int_bool ?_) | (with_reducible refine i_isi_int_str ?_) | (with_reducible refine i_isi_int_tuple ?_) | (with_reducible refine i_isi_int_list ?_)
  | (with_reducible refine i_isi_bl_int ?_) | (with_reducible refine i_isi_bl_bool ?_) | (with_reducible refine i_isi_bl_str ?_) | (with_reducible refine i_isi_bl_tuple ?_) | (with_reducible refine i_isi_bl_list ?_)
  | (with_reducible refine i_isi_str_int ?_) | (with_reducible refine i_isi_str_bool ?_) | (with_reducible refine i_isi_str_str ?_) | (with_reducible refine i_isi_str_tuple ?_) | (with_reducible refine i_isi_str_list ?_)
  | (with_reducible refine i_isi_non_int ?_) | (with_reducible refine i_isi_non_bool ?_) | (with_reducible refine i_isi_non_str ?_) | (with_reducible refine i_isi_non_tuple ?_) | (with_reducible refine i_isi_non_list ?_))
local macro_rules | `(tactic| walk_at "go") => `(tactic| (repeat' (walk_at "s")))
local macro_rules | `(tactic| walk_at "n") => `(tactic| simp only [wipe, List.map_cons, List.map_nil, List.set_cons_zero, List.set_cons_succ])
abbrev LT : List Nat := [103, 114, 119]
def sgL : List Nat → Bool
  | [c] => decide (c ∈ SG)
  | _ => false
def ltL : List Nat → Bool
  | [c] => decide (c ∈ LT)
  | _ => false
def isSg : PyData → Bool
  | .str x => sgL x.cps.toList
  | _ => false
def isLt : PyData → Bool
  | .str x => ltL x.cps.toList
  | _ => false
theorem isSg_str (l : List Nat) : isSg (dS l) = sgL l := rfl
theorem isLt_str (l : List Nat) : isLt (dS l) = ltL l := rfl
theorem sgL_no {l : List Nat} (h : l.length ≠ 1) : sgL l = false := by
  match l, h with
  | [], _ => rfl
  | [c], h => exact absurd rfl h
  | a :: b :: r, _ => rfl
theorem ltL_sg (l : List Nat) : ltL l = (sgL l && decide (l ≠ [46])) := by
  match l with
  | [] => rfl
  | [c] =>
    show decide (c ∈ LT) = (decide (c ∈ SG) && decide ([c] ≠ [46]))
    rw [Bool.eq_iff_iff]
    simp
    omega
  | a :: b :: r => rfl
theorem two_of {α : Type} {r : List α} (h : r.length = 2) : ∃ m n, r = [m, n] := by
  match r, h with
  | [m, n], _ => exact ⟨m, n, rfl⟩
section
variable {P : Program} {w : World} {K : PySem.W.Frag} {mg : Str → Option Value} {base : Heap} {C_GlimError C_BadLine C_BadWeather C_Lines : Addr}
def p_is_sign : P1 := fun x H Q _ => ∃ d, At H x d ∧ Q (.bl (isSg d)) H
theorem ok_is_sign (T : Txt K mg C_GlimError C_BadLine C_BadWeather C_Lines) : OK P w K mg base CX0 1 "is_sign" ["thing"] (sp1  p_is_sign) := by
  refine OK.mk (k := 0) T.d_is_sign sc_is_sign len1 fun f cdv A outer s H vs Q E hr h => ?_
  obtain ⟨x, rfl, h⟩ := h
  refine ⟨_, (pss_one (ps_ret (pe_and (pe_callB (cIsi K) (by rfl) T.b_isinstance (by decide +kernel) (pa_cons (pv 0) (pa_cons (pe_bltn (v := .ty "str") (by rfl) T.b_str (by decide +kernel) rfl) pa_nil))) (pe_and (pe_cmpR (opEq K hr.units) (pe_callB (cLen K) (by rfl) T.b_len (by decide +kernel) (pa_cons (pv 0) pa_nil)) pe_int (nomark _)) (pe_one (pe_cmpR (opIn K) (pv 0) (pe_gS [46, 103, 114, 119] T.g_SIGNS) (by with_unfolding_all rfl))))))), ?_⟩
  show (_ : TS) { nx := fun _ H' => Q .non H', rt := Q } [some x] H
  obtain ⟨d, hx, q⟩ := h
  cases d
  case str x =>
    obtain ⟨l, rfl, rfl, hl⟩ := hx.strl
    change Q (.bl (sgL l)) H at q
    walk_at "go"
    refine i_dec (fun e => ?_) (fun e => ?_)
    · have e1 : l.length = 1 := by omega
      obtain ⟨c, rfl⟩ := List.length_eq_one_iff.mp e1
      walk_at "go"
      exact q
    · rw [sgL_no (by omega)] at q
      exact q
  all_goals
    walk_at "go"
    refine i_isiStr false hx rfl ?_
    walk_at "go"
    exact q
def p_is_lit : P1 := fun x H Q _ => ∃ d, At H x d ∧ Q (.bl (isLt d)) H
theorem ok_is_lit (T : Txt K mg C_GlimError C_BadLine C_BadWeather C_Lines) : OK P w K mg base CX0 2 "is_lit" ["thing"] (sp1  p_is_lit) := by
  refine OK.mk (k := 1) T.d_is_lit sc_is_lit len1 fun f cdv A outer s H vs Q E hr h => ?_
  obtain ⟨x, rfl, h⟩ := h
  refine ⟨_, (pss_one (ps_ret (pe_and (pe_f (ok_is_sign (K := K) T) (hr.mono (by decide)) pass0 (pa_cons (pv 0) pa_nil)) (pe_one (pe_cmpR (opNe K hr.units) (pv 0) (pe_S [46]) (nomark _)))))), ?_⟩
  show (_ : TS) { nx := fun _ H' => Q .non H', rt := Q } [some x] H
  obtain ⟨d, hx, q⟩ := h
  cases d
  case str x =>
    obtain ⟨l, rfl, rfl, hl⟩ := hx.strl
    change Q (.bl (ltL l)) H at q
    walk_at "go"
    refine ⟨_, hx, ?_⟩
    rw [isSg_str]
    rw [ltL_sg] at q
    cases e : sgL l with
    | true =>
      rw [e, Bool.true_and] at q
      walk_at "go"
      rw [decide_not] at q
      exact q
    | false =>
      rw [e, Bool.false_and] at q
      walk_at "go"
      exact q
  all_goals
    walk_at "go"
    refine ⟨_, hx, ?_⟩
    have q' : Q (.bl false) H := q
    show ∃ c, V.bl false = .bl c ∧ _
    walk_at "go"
    exact q'
/-- a number of at most nine digits, without a nought ahead -/
def numL (l : List Nat) : Bool := decide (1 ≤ l.length) && decide (l.length ≤ 9) && l.all (fun c => decide (c ∈ DG)) && (decide (l = [48]) || decide (l.head? ≠ some 48))
def p_is_number : P1 := fun x H Q _ => ∃ l, x = S l ∧ l.length ≤ 10000 ∧ Q (.bl (numL l)) H
theorem ok_is_number (T : Txt K mg C_GlimError C_BadLine C_BadWeather C_Lines) : OK P w K mg base CX0 1 "is_number" ["text"] (sp1  p_is_number) := by
  refine OK.mk (k := 0) T.d_is_number sc_is_number len1 fun f cdv A outer s H vs Q E hr h => ?_
  obtain ⟨x, rfl, h⟩ := h
  refine ⟨_, (pss_cons (ps_if (pt_not (pt_chain op_leP op_leP pe_int (pe_callB (cLen K) (by rfl) T.b_len (by decide +kernel) (pa_cons (pv 0) pa_nil)) pe_int)) (pss_one (ps_ret pe_bl)) pss_nil) (pss_cons (ps_for PassesOwn.never rfl (piAny K (pv 0)) (pg_name (i := 1) sc_is_number.nd rfl (Or.inl rfl)) (pss_one (ps_if (pt_cmpR (opNotIn K) (pv 1) (pe_gS [48, 49, 50, 51, 52, 53, 54, 55, 56, 57] T.g_DIGITS) (by with_unfolding_all rfl)) (pss_one (ps_ret pe_bl)) pss_nil))) (pss_one (ps_ret (pe_or (pe_cmpR (opEq K hr.units) (pv 0) (pe_S [48]) (nomark _)) (pe_one (pe_cmpR (opNe K hr.units) (pe_ix (ixK K) (pv 0) pe_int (fun _ _ => rfl)) (pe_S [48]) (nomark _)))))))), ?_⟩
  show (_ : TS) { nx := fun _ H' => Q .non H', rt := Q } [some x, none] H
  obtain ⟨l, rfl, hl, q⟩ := h
  unfold numL at q
  walk_at "go"
  refine i_dec (fun e1 => ?_) (fun e1 => ?_)
  case refine_2 =>
    walk_at "go"
    rw [decide_eq_false (show ¬ 1 ≤ l.length by omega)] at q
    simpa using q
  walk_at "go"
  rw [decide_eq_true (show 1 ≤ l.length by omega)] at q
  refine i_decN (fun e2 => ?_) (fun e2 => ?_)
  · rw [decide_eq_false (show ¬ l.length ≤ 9 by omega)] at q
    walk_at "go"
    simpa using q
  rw [decide_eq_true (show l.length ≤ 9 by omega)] at q
  walk_at "go"
  refine i_forS (z := l) (fun i σ H' => ∃ v1, σ = [some (S l), v1] ∧ H' = H ∧ ∀ k < i, ∀ c, l[k]? = some c → c ∈ DG) ⟨none, rfl, rfl, fun k hk => absurd hk (Nat.not_lt_zero _)⟩ ?_ ?_
  · rintro i c σ H' hc ⟨v1, rfl, rfl, hb⟩
    show (_ : TS) _ [some (S l), some (S [c])] _
    walk_at "go"
    refine i_decN (fun e => ?_) (fun e => ?_)
    · walk_at "go"
      have e3 : l.all (fun c => decide (c ∈ DG)) = false := by
        rw [List.all_eq_false]
        exact ⟨c, List.mem_of_getElem? hc, by simpa using e⟩
      rw [e3] at q
      simpa using q
    · walk_at "go"
      refine ⟨_, rfl, rfl, fun k hk c' hc' => ?_⟩
      rcases Nat.lt_or_ge k i with h | h
      · exact hb k h c' hc'
      · have : k = i := by omega
        subst this
        rw [hc] at hc'
        cases hc'
        exact e
  · rintro σ H' ⟨v1, rfl, rfl, hb⟩
    have e3 : l.all (fun c => decide (c ∈ DG)) = true := by
      rw [List.all_eq_true]
      intro c hc
      obtain ⟨k, hk, e⟩ := List.mem_iff_getElem.mp hc
      exact decide_eq_true (hb k hk c (by rw [List.getElem?_eq_getElem hk, e]))
    rw [e3] at q
    walk_at "go"
    refine i_dec (fun e => ?_) (fun e => ?_)
    · rw [decide_eq_true e] at q
      simpa using q
    · rw [decide_eq_false e] at q
      walk_at "go"
      cases l with
      | nil => simp at e1
      | cons c r =>
        refine i_ix_str (c := c) (by omega) (by decide) rfl ?_
        walk_at "go"
        have e4 : (decide ((c :: r).head? ≠ some 48)) = !decide ([c] = [48]) := by
          rw [Bool.eq_iff_iff]; simp
        rw [e4] at q
        simpa using q
def isLose : List PyData → Bool
  | [n] => isIn n 1 9
  | _ => false
def lessD : PyData → PyData → Bool
  | .int a, .int b => decide (a < b)
  | _, _ => false
def isMiss : List PyData → Bool
  | [a, b] => isIn a 1 2 && isIn b 2 8 && lessD a b
  | _ => false
def neqD : PyData → PyData → Bool
  | .str a, .str b => !decide (a = b)
  | _, _ => true
def isTake : List PyData → Bool
  | [a, b] => isLt a && isSg b && neqD a b
  | _ => false
def p_is_lose : P1 := fun x H Q _ => ∃ w r, At H x (.tuple (w :: r)) ∧ Q (.bl (isLose r)) H
theorem ok_is_lose (T : Txt K mg C_GlimError C_BadLine C_BadWeather C_Lines) : OK P w K mg base CX0 2 "is_lose" ["told"] (sp1  p_is_lose) := by
  refine OK.mk (k := 1) T.d_is_lose sc_is_lose len1 fun f cdv A outer s H vs Q E hr h => ?_
  obtain ⟨x, rfl, h⟩ := h
  refine ⟨_, (pss_one (ps_ret (pe_and (pe_cmpR (opEq K hr.units) (pe_callB (cLen K) (by rfl) T.b_len (by decide +kernel) (pa_cons (pv 0) pa_nil)) pe_int (nomark _)) (pe_one (pe_f (ok_is_integer (K := K) T) (hr.mono (by decide)) pass0 (pa_cons (pe_ix (ixK K) (pv 0) pe_int (fun _ _ => rfl)) (pa_cons pe_int (pa_cons pe_int pa_nil)))))))), ?_⟩
  show (_ : TS) { nx := fun _ H' => Q .non H', rt := Q } [some x] H
  obtain ⟨w, r, hx, q⟩ := h
  obtain ⟨a, xs, rfl, hH, hl, al⟩ := hx.tupled
  have ll := al.len
  walk_at "go"
  refine i_len_tup (.inl (.inl hH)) ?_
  walk_at "go"
  refine i_dec (fun e => ?_) (fun e => ?_)
  · obtain ⟨n, rfl⟩ : ∃ n, r = [n] := List.length_eq_one_iff.mp (by simp at ll; omega)
    obtain ⟨v, hv, av⟩ := al.at (i := 1) (d := n) rfl
    walk_at "go"
    refine i_ix_tup (v := v) (.inl (.inl hH)) (atI_int (by decide) hv) ?_
    walk_at "go"
    exact ⟨n, 1, 9, av, rfl, rfl, q⟩
  · have e1 : isLose r = false := by
      match r, ll with
      | [], _ => rfl
      | [n], ll => exact absurd (by simp at ll; omega) e
      | a :: b :: r, _ => rfl
    rw [e1] at q
    exact q
def p_is_miss : P1 := fun x H Q _ => ∃ w r, At H x (.tuple (w :: r)) ∧ Q (.bl (isMiss r)) H
theorem isIn_is {d : PyData} {lo hi : Int} (h : isIn d lo hi = true) : ∃ i, d = .int i := by
  cases d <;> first
    | exact ⟨_, rfl⟩
    | cases h
theorem ok_is_miss (T : Txt K mg C_GlimError C_BadLine C_BadWeather C_Lines) : OK P w K mg base CX0 2 "is_miss" ["told"] (sp1  p_is_miss) := by
  refine OK.mk (k := 1) T.d_is_miss sc_is_miss len1 fun f cdv A outer s H vs Q E hr h => ?_
  obtain ⟨x, rfl, h⟩ := h
  refine ⟨_, (pss_cons (ps_if (pw_or (pt_cmpR (opNe K hr.units) (pe_callB (cLen K) (by rfl) T.b_len (by decide +kernel) (pa_cons (pv 0) pa_nil)) pe_int (nomark _)) (pw_or (pt_not (pt_val (pe_f (ok_is_integer (K := K) T) (hr.mono (by decide)) pass0 (pa_cons (pe_ix (ixK K) (pv 0) pe_int (fun _ _ => rfl)) (pa_cons pe_int (pa_cons pe_int pa_nil)))))) (pw_or1 (pt_not (pt_val (pe_f (ok_is_integer (K := K) T) (hr.mono (by decide)) pass0 (pa_cons (pe_ix (ixK K) (pv 0) pe_int (fun _ _ => rfl)) (pa_cons pe_int (pa_cons pe_int pa_nil))))))))).pt (pss_one (ps_ret pe_bl)) pss_nil) (pss_one (ps_ret (pe_cmpR op_ltP (pe_ix (ixK K) (pv 0) pe_int (fun _ _ => rfl)) (pe_ix (ixK K) (pv 0) pe_int (fun _ _ => rfl)) (nomark _))))), ?_⟩
  show (_ : TS) { nx := fun _ H' => Q .non H', rt := Q } [some x] H
  obtain ⟨w, r, hx, q⟩ := h
  obtain ⟨a, xs, rfl, hH, hl, al⟩ := hx.tupled
  have ll := al.len
  walk_at "go"
  refine i_len_tup (.inl (.inl hH)) ?_
  walk_at "go"
  refine i_decN (fun e => ?_) (fun e => ?_)
  · have e1 : isMiss r = false := by
      match r, ll with
      | [], _ => rfl
      | [n], ll => rfl
      | [a, b], ll => exact absurd (by simp at ll; omega) e
      | a :: b :: c :: r, _ => rfl
    rw [e1] at q
    walk_at "go"
    exact q
  obtain ⟨m, n, rfl⟩ := two_of (r := r) (by simp at ll; omega)
  obtain ⟨v1, hv1, a1⟩ := al.at (i := 1) (d := m) rfl
  obtain ⟨v2, hv2, a2⟩ := al.at (i := 2) (d := n) rfl
  change Q (.bl (isIn m 1 2 && isIn n 2 8 && lessD m n)) H at q
  walk_at "go"
  refine i_ix_tup (v := v1) (.inl (.inl hH)) (atI_int (by decide) hv1) ?_
  walk_at "go"
  refine ⟨m, 1, 2, a1, rfl, rfl, ?_⟩
  cases e1 : isIn m 1 2 with
  | false =>
    rw [e1] at q
    walk_at "go"
    simpa using q
  | true =>
  walk_at "go"
  refine i_ix_tup (v := v2) (.inl (.inl hH)) (atI_int (by decide) hv2) ?_
  walk_at "go"
  refine ⟨n, 2, 8, a2, rfl, rfl, ?_⟩
  cases e2 : isIn n 2 8 with
  | false =>
    rw [e1, e2] at q
    walk_at "go"
    simpa using q
  | true =>
  obtain ⟨i, rfl⟩ := isIn_is e1
  obtain ⟨j, rfl⟩ := isIn_is e2
  obtain rfl := a1.intd
  obtain rfl := a2.intd
  rw [e1, e2] at q
  walk_at "go"
  refine i_ix_tup (v := .int i) (.inl (.inl hH)) (atI_int (by decide) hv1) ?_
  walk_at "go"
  refine i_ix_tup (v := .int j) (.inl (.inl hH)) (atI_int (by decide) hv2) ?_
  walk_at "go"
  simpa [lessD] using q
end
end K12
namespace K12
open PySem PySem.Spec PyProof.Rows L2 Fg
local macro_rules | `(tactic| walk_at "sq") => `(tactic| first
  | assumption
  | exact .inl (.inl (by assumption))
  | exact .inl (.inl upd_same))
local macro_rules | `(tactic| walk_at "st") => `(tactic| first
  | assumption
  | exact .inl (.inl (by assumption))
  | exact .inl (.inl upd_same))
local macro_rules | `(tactic| walk_at "o") => `(tactic| first
  | omega
  | assumption
  | (simp only [List.length_append, List.length_take, List.length_drop, List.length_cons, List.length_nil, List.length_singleton, List.length_map, List.length_range, Int.toNat_natCast] ; omega))
local macro_rules | `(tactic| walk_at "s") => `(tactic| first
  | (with_reducible refine i_seq ?_)
  | (with_reducible refine i_asg ?_)
  | ((with_reducible refine' i_var ?h1 ?_); (case h1 => rfl))
  | (with_reducible refine i_c ?_)
  | ((with_reducible refine' i_gname' ?h1 ?_); (case h1 => (simp only [List.set_cons_zero, List.set_cons_succ]; rfl)))
  | (with_reducible refine i_op ?_)
  | (with_reducible refine i_ifS ?_)
  | (with_reducible refine i_for ?_)
  | (with_reducible refine i_test ?_)
  | (with_reducible refine i_B ?_)
  | (with_reducible refine i_exbl ?_)
  | (with_reducible refine i_exint ?_)
  | (with_reducible refine i_cb ?_)
  | (with_reducible refine i_nil ?_)
  | (with_reducible refine i_cons ?_)
  | (with_reducible refine i_ret ?_)
  | (with_reducible refine i_sl ?_)
  | (with_reducible refine i_nopart ?_)
  | (with_reducible refine i_part ?_)
  | (with_reducible refine i_add_int ?_)
  | (with_reducible refine i_sub ?_)
  | (with_reducible refine i_lt ?_)
  | ((with_reducible refine' i_mod ?h1 ?_); (case h1 => walk_at "o"))
  | ((with_reducible refine' i_fdiv ?h1 ?_); (case h1 => (refine cdiv_small ?_ ?_ <;> walk_at "o")))
  | ((with_reducible refine' i_sl_to ?h1 ?h2 ?_); (case h1 => walk_at "o"); (case h2 => walk_at "o"))
  | ((with_reducible refine' i_sl_from ?h1 ?h2 ?_); (case h1 => walk_at "o"); (case h2 => walk_at "o"))
  | ((with_reducible refine' i_add_str ?h1 ?_); (case h1 => walk_at "o"))
  | ((with_reducible refine' i_mul_int ?h1 ?_); (case h1 => first | (refine mul_small ?_ ?_ <;> walk_at "o") | (refine mul_smallR ?_ ?_ <;> walk_at "o")))
  | (with_reducible refine i_le ?_)
  | (with_reducible refine i_gt ?_)
  | (with_reducible refine i_ge ?_)
  | (with_reducible refine i_eq_int ?_)
  | (with_reducible refine i_eq_str ?_)
  | (with_reducible refine i_ne_int ?_)
  | (with_reducible refine i_ne_str ?_)
  | (with_reducible refine i_eq_bl ?_)
  | (with_reducible refine i_ne_bl ?_)
  | (with_reducible refine i_in_sg ?_)
  | (with_reducible refine i_notIn_sg ?_)
  | (with_reducible refine i_call ?_)
  | (with_reducible refine i_callS ?_)
  | (with_reducible refine i_sp1 ?_)
  | (with_reducible refine i_sp2 ?_)
  | (with_reducible refine i_sp3 ?_)
  | (with_reducible refine i_sp4 ?_)
  | (with_reducible refine i_sp1' ?_)
  | (with_reducible refine i_sp2' ?_)
  | (with_reducible refine i_sp3' ?_)
  | ((with_reducible refine' i_ix_lst ?h1 ?h2 ?_); (case h1 => walk_at "sq"); (case h2 => first | exact atI_nat rfl | rfl))
  | ((with_reducible refine' i_ix_tup ?h1 ?h2 ?_); (case h1 => walk_at "st"); (case h2 => first | exact atI_nat rfl | rfl))
  | (with_reducible refine i_gsub ?_)
  | (with_reducible refine i_par ?_)
  | (with_reducible refine i_lstRg1 ?_)
  | (with_reducible refine i_app ?_)
  | (with_reducible refine i_par2 ?_)
  | ((with_reducible refine' i_aug ?h1 ?_); (case h1 => rfl))
  | (with_reducible refine i_ipI ?_)
  | ((with_reducible refine' i_gtup2 ?h1 ?_); (case h1 => walk_at "st"))
  | (with_reducible refine i_int_bl ?_)
  | (with_reducible refine i_raise ?_)
  | (with_reducible refine i_mkE ?_)
  | (with_reducible refine i_ex1 ?_)
  | (with_reducible refine i_and ?_)
  | (with_reducible refine i_or ?_)
  | (with_reducible refine i_not ?_)
  | (with_reducible refine i_tt ?_)
  | (with_reducible refine i_ff ?_)
  | (with_reducible refine i_nott ?_)
  | (with_reducible refine i_notf ?_)
  | (with_reducible refine i_andV ?_)
  | (with_reducible refine i_orV ?_)
  | (with_reducible refine i_notV ?_)
  | (with_reducible refine i_ifE ?_)
  | (with_reducible refine i_tup ?_)
  | (with_reducible refine i_lst ?_)
  | (with_reducible refine i_un ?_)
  | (with_reducible refine i_neg ?_)
  | (with_reducible refine i_chain ?_)
  | (with_reducible refine i_next ?_)
  | (with_reducible refine i_retN ?_)
  | (with_reducible refine i_drop ?_)
  | (with_reducible refine i_int_int ?_)
  | (with_reducible refine i_abs ?_)
  | (with_reducible refine i_m1c ?_)
  | (with_reducible refine i_is_non ?_)
  | (with_reducible refine i_is_int ?_)
  | (with_reducible refine i_is_bl ?_)
  | (with_reducible refine i_isn_bl ?_)
  | (with_reducible refine i_is_str ?_)
  | (with_reducible refine i_is_ref ?_)
  | (with_reducible refine i_isn_non ?_)
  | (with_reducible refine i_isn_int ?_)
  | (with_reducible refine i_isn_str ?_)
  | (with_reducible refine i_isn_ref ?_)
  | (with_reducible refine i_len_str ?h1 ?_; (case h1 => walk_at "o"))
  | (with_reducible refine i_callD ?_)
  | (with_reducible refine i_spD2 ?_)
  | (with_reducible refine i_spM1 ?_)
  | (with_reducible refine i_spM2 ?_)
  | (with_reducible refine i_spM3 ?_)
  | (with_reducible refine i_spM4 ?_)
  | (with_reducible refine i_spM3d ?_)
  | (with_reducible refine i_tfld ?_)
  | (with_reducible refine i_sfld ?_)
  | (with_reducible refine i_meth ?_)
  | (with_reducible refine i_make ?_)
  | (with_reducible refine i_spl ?_)
  | (with_reducible refine i_mkE2 ?_)
  | (with_reducible refine i_ex2 ?_)
  | (with_reducible refine i_dget ?_)
  | (with_reducible refine i_tru ?_)
  | (with_reducible refine i_dput ?_)
  | (with_reducible refine i_dnotin ?_)
  | (with_reducible refine i_din ?_)
  | (with_reducible refine i_isi_int_int ?_) | (with_reducible refine i_isi_int_bool ?_) | (with_reducible refine i_isi_int_str ?_) | (with_reducible refine i_isi_int_tuple ?_) | (with_reducible refine i_isi_int_list ?_)
  | (with_reducible refine i_isi_bl_int ?_) | (with_reducible refine i_isi_bl_bool ?_) | (with_reducible refine i_isi_bl_str ?_) | (with_reducible refine i_isi_bl_tuple ?_) | (with_reducible refine i_isi_bl_list ?_)
  | (with_reducible refine i_isi_str_int ?_) | (with_reducible refine i_isi_str_bool ?_) | (with_reducible refine i_isi_str_str ?_) | (with_reducible refine i_isi_str_tuple ?_) | (with_reducible refine i_isi_str_list ?_)
  | (with_reducible refine i_isi_non_int ?_) | (with_reducible refine i_isi_non_bool ?_) | (with_reducible refine i_isi_non_str ?_) | (with_reducible refine i_isi_non_tuple ?_) | (with_reducible refine i_isi_non_list ?_))
local macro_rules | `(tactic| walk_at "go") => `(tactic| (repeat' (walk_at "s")))
local macro_rules | `(tactic| walk_at "n") => `(tactic| simp only [wipe, List.map_cons, List.map_nil, List.set_cons_zero, List.set_cons_succ])
abbrev cLose : List Nat := [108, 111, 115, 101]
abbrev cMiss : List Nat := [109, 105, 115, 115]
abbrev cTake : List Nat := [116, 97, 107, 101]
abbrev cAlw : List Nat := [97, 108, 119, 97, 121, 115]
abbrev cGlow : List Nat := [103, 108, 111, 119]
abbrev cLate : List Nat := [108, 97, 116, 101]
def neqS : PyData → PyData → Bool
  | .str a, .str b => !decide (a.cps.toList = b.cps.toList)
  | _, _ => true
def isTk : List PyData → Bool
  | [a, b] => isLt a && isSg b && neqS a b
  | _ => false
/-- the weather of this word and rest -/
def wKind (l : List Nat) (r : List PyData) : Bool :=
  if l = cLose then isLose r else if l = cMiss then isMiss r else if l = cTake ∨ l = cAlw then isTk r else r.isEmpty && (decide (l = cGlow) || decide (l = cLate))
def isW : PyData → Bool
  | .tuple (.str w :: r) => wKind w.cps.toList r
  | _ => false
theorem isLt_is {d : PyData} (h : isLt d = true) : ∃ c, d = dS [c] ∧ c ∈ LT := by
  cases d with
  | str x =>
    obtain ⟨⟨l⟩⟩ := x
    have h' : ltL l = true := h
    match l, h' with
    | [c], h' => exact ⟨c, rfl, by simpa [ltL] using h'⟩
  | _ => cases h
theorem isSg_is {d : PyData} (h : isSg d = true) : ∃ c, d = dS [c] ∧ c ∈ SG := by
  cases d with
  | str x =>
    obtain ⟨⟨l⟩⟩ := x
    have h' : sgL l = true := h
    match l, h' with
    | [c], h' => exact ⟨c, rfl, by simpa [sgL] using h'⟩
  | _ => cases h
section
variable {P : Program} {w : World} {K : PySem.W.Frag} {mg : Str → Option Value} {base : Heap} {C_GlimError C_BadLine C_BadWeather C_Lines : Addr}
def p_is_taking : P1 := fun x H Q _ => ∃ w r, At H x (.tuple (w :: r)) ∧ Q (.bl (isTk r)) H
theorem ok_is_taking (T : Txt K mg C_GlimError C_BadLine C_BadWeather C_Lines) : OK P w K mg base CX0 3 "is_taking" ["told"] (sp1  p_is_taking) := by
  refine OK.mk (k := 2) T.d_is_taking sc_is_taking len1 fun f cdv A outer s H vs Q E hr h => ?_
  obtain ⟨x, rfl, h⟩ := h
  refine ⟨_, (pss_one (ps_ret (pe_and (pe_cmpR (opEq K hr.units) (pe_callB (cLen K) (by rfl) T.b_len (by decide +kernel) (pa_cons (pv 0) pa_nil)) pe_int (nomark _)) (pe_and (pe_f (ok_is_lit (K := K) T) (hr.mono (by decide)) pass0 (pa_cons (pe_ix (ixK K) (pv 0) pe_int (fun _ _ => rfl)) pa_nil)) (pe_and (pe_f (ok_is_sign (K := K) T) (hr.mono (by decide)) pass0 (pa_cons (pe_ix (ixK K) (pv 0) pe_int (fun _ _ => rfl)) pa_nil)) (pe_one (pe_cmpR (opNe K hr.units) (pe_ix (ixK K) (pv 0) pe_int (fun _ _ => rfl)) (pe_ix (ixK K) (pv 0) pe_int (fun _ _ => rfl)) (nomark _)))))))), ?_⟩
  show (_ : TS) { nx := fun _ H' => Q .non H', rt := Q } [some x] H
  obtain ⟨w, r, hx, q⟩ := h
  obtain ⟨a, xs, rfl, hH, hl, al⟩ := hx.tupled
  have ll := al.len
  walk_at "go"
  refine i_len_tup (.inl (.inl hH)) ?_
  walk_at "go"
  refine i_dec (fun e => ?_) (fun e => ?_)
  case refine_2 =>
    have e1 : isTk r = false := by
      match r, ll with
      | [], _ => rfl
      | [n], ll => rfl
      | [a, b], ll => exact absurd (by simp at ll; omega) e
      | a :: b :: c :: r, _ => rfl
    rw [e1] at q
    exact q
  obtain ⟨m, n, rfl⟩ := two_of (r := r) (by simp at ll; omega)
  obtain ⟨v1, hv1, a1⟩ := al.at (i := 1) (d := m) rfl
  obtain ⟨v2, hv2, a2⟩ := al.at (i := 2) (d := n) rfl
  change Q (.bl (isLt m && isSg n && neqS m n)) H at q
  walk_at "go"
  refine i_ix_tup (v := v1) (.inl (.inl hH)) (atI_int (by decide) hv1) ?_
  walk_at "go"
  refine ⟨m, a1, ?_⟩
  cases e1 : isLt m with
  | false =>
    rw [e1] at q
    walk_at "go"
    simpa using q
  | true =>
  walk_at "go"
  refine i_ix_tup (v := v2) (.inl (.inl hH)) (atI_int (by decide) hv2) ?_
  walk_at "go"
  refine ⟨n, a2, ?_⟩
  cases e2 : isSg n with
  | false =>
    rw [e1, e2] at q
    walk_at "go"
    simpa using q
  | true =>
  obtain ⟨c1, rfl, h1⟩ := isLt_is e1
  obtain ⟨c2, rfl, h2⟩ := isSg_is e2
  obtain rfl := a1.strd
  obtain rfl := a2.strd
  rw [e1, e2] at q
  walk_at "go"
  refine i_ix_tup (v := S [c1]) (.inl (.inl hH)) (atI_int (by decide) hv1) ?_
  walk_at "go"
  refine i_ix_tup (v := S [c2]) (.inl (.inl hH)) (atI_int (by decide) hv2) ?_
  walk_at "go"
  simpa [neqS] using q
def p_is_weather : P1 := fun x H Q _ => ∃ A d, Same A H ∧ At A x d ∧ d.depth < 6 ∧ ∀ H', Same H H' → Q (.bl (isW (deepD d))) H'
theorem ok_is_weather (T : Txt K mg C_GlimError C_BadLine C_BadWeather C_Lines) : OK P w K mg base CX0 7 "is_weather" ["thing"] (sp1  p_is_weather) := by
  refine OK.mk (k := 6) T.d_is_weather sc_is_weather len1 fun f cdv A outer s H vs Q E hr h => ?_
  obtain ⟨x, rfl, h⟩ := h
  refine ⟨_, (pss_cons (ps_set (i := 1) sc_is_weather.nd rfl (Or.inl rfl) (pe_fd (ok_deep (K := K) T) (hr.mono (by decide)) pass0 (pa_cons (pv 0) pa_nil))) (pss_cons (ps_if (pw_or (pt_not (pt_val (pe_callB (cIsi K) (by rfl) T.b_isinstance (by decide +kernel) (pa_cons (pv 1) (pa_cons (pe_bltn (v := .ty "tuple") (by rfl) T.b_tuple (by decide +kernel) rfl) pa_nil))))) (pw_or (pt_cmpR (opEq K hr.units) (pe_callB (cLen K) (by rfl) T.b_len (by decide +kernel) (pa_cons (pv 1) pa_nil)) pe_int (nomark _)) (pw_or1 (pt_not (pt_val (pe_callB (cIsi K) (by rfl) T.b_isinstance (by decide +kernel) (pa_cons (pe_ix (ixK K) (pv 1) pe_int (fun _ _ => rfl)) (pa_cons (pe_bltn (v := .ty "str") (by rfl) T.b_str (by decide +kernel) rfl) pa_nil)))))))).pt (pss_one (ps_ret pe_bl)) pss_nil) (pss_cons (ps_if (pt_cmpR (opEq K hr.units) (pe_ix (ixK K) (pv 1) pe_int (fun _ _ => rfl)) (pe_S [108, 111, 115, 101]) (nomark _)) (pss_one (ps_ret (pe_f (ok_is_lose (K := K) T) (hr.mono (by decide)) pass0 (pa_cons (pv 1) pa_nil)))) pss_nil) (pss_cons (ps_if (pt_cmpR (opEq K hr.units) (pe_ix (ixK K) (pv 1) pe_int (fun _ _ => rfl)) (pe_S [109, 105, 115, 115]) (nomark _)) (pss_one (ps_ret (pe_f (ok_is_miss (K := K) T) (hr.mono (by decide)) pass0 (pa_cons (pv 1) pa_nil)))) pss_nil) (pss_cons (ps_if (pw_or (pt_cmpR (opEq K hr.units) (pe_ix (ixK K) (pv 1) pe_int (fun _ _ => rfl)) (pe_S [116, 97, 107, 101]) (nomark _)) (pw_or1 (pt_cmpR (opEq K hr.units) (pe_ix (ixK K) (pv 1) pe_int (fun _ _ => rfl)) (pe_S [97, 108, 119, 97, 121, 115]) (nomark _)))).pt (pss_one (ps_ret (pe_f (ok_is_taking (K := K) T) (hr.mono (by decide)) pass0 (pa_cons (pv 1) pa_nil)))) pss_nil) (pss_one (ps_ret (pe_and (pe_cmpR (opEq K hr.units) (pe_callB (cLen K) (by rfl) T.b_len (by decide +kernel) (pa_cons (pv 1) pa_nil)) pe_int (nomark _)) (pe_one (pe_or (pe_cmpR (opEq K hr.units) (pe_ix (ixK K) (pv 1) pe_int (fun _ _ => rfl)) (pe_S [103, 108, 111, 119]) (nomark _)) (pe_one (pe_cmpR (opEq K hr.units) (pe_ix (ixK K) (pv 1) pe_int (fun _ _ => rfl)) (pe_S [108, 97, 116, 101]) (nomark _))))))))))))), ?_⟩
  show (_ : TS) { nx := fun _ H' => Q .non H', rt := Q } [some x, none] H
  obtain ⟨A0, d, sa, hx, hd, q⟩ := h
  walk_at "go"
  refine ⟨A0, d, 0, sa, hx, rfl, by decide, by decide, hd, fun A1 H1 v x1 hv => ?_⟩
  have q' := q H1 x1.gg
  clear q
  replace hv := hv.same x1.ag
  generalize deepD d = D at *
  walk_at "go"
  cases D
  case tuple ds =>
    obtain ⟨a, xs, rfl, hH, hl, al⟩ := hv.tupled
    have ll := al.len
    refine i_isiTup true hv rfl ?_
    walk_at "go"
    refine i_len_tup (.inl (.inl hH)) ?_
    walk_at "go"
    cases ds with
    | nil =>
      have e0 : ((xs.length : Int) = 0) := by have := (show xs.length = 0 from ll); omega
      rw [decide_eq_true e0]
      walk_at "go"
      exact q'
    | cons w r =>
      have e0 : ¬ ((xs.length : Int) = 0) := by simp at ll; omega
      rw [decide_eq_false e0]
      obtain ⟨v0, hv0, a0⟩ := al.at (i := 0) (d := w) rfl
      walk_at "go"
      refine i_ix_tup (v := v0) (.inl (.inl hH)) (atI_int (by decide) hv0) ?_
      walk_at "go"
      cases w
      case str wx =>
        obtain ⟨l, rfl, rfl, hl0⟩ := a0.strl
        change Q (.bl (wKind l r)) H1 at q'
        unfold wKind at q'
        walk_at "go"
        have ix : ∀ {R : VK}, R (S l) H1 → ixP K (.ref a) (.int 0) H1 R := fun k => i_ix_tup (.inl (.inl hH)) (atI_int (by decide) hv0) k
        refine ix ?_
        walk_at "go"
        refine i_dec (fun e => ?_) (fun e => ?_)
        · rw [if_pos e] at q'
          walk_at "go"
          exact ⟨_, r, hv, q'⟩
        rw [if_neg e] at q'
        walk_at "go"
        refine ix ?_
        walk_at "go"
        refine i_dec (fun e => ?_) (fun e => ?_)
        · rw [if_pos e] at q'
          walk_at "go"
          exact ⟨_, r, hv, q'⟩
        rw [if_neg e] at q'
        walk_at "go"
        refine ix ?_
        walk_at "go"
        refine i_dec (fun e => ?_) (fun e => ?_)
        · rw [if_pos (.inl e)] at q'
          walk_at "go"
          exact ⟨_, r, hv, q'⟩
        walk_at "go"
        refine ix ?_
        walk_at "go"
        refine i_dec (fun e2 => ?_) (fun e2 => ?_)
        · rw [if_pos (.inr e2)] at q'
          walk_at "go"
          exact ⟨_, r, hv, q'⟩
        rw [if_neg (fun z => z.elim e e2)] at q'
        walk_at "go"
        refine i_len_tup (.inl (.inl hH)) ?_
        walk_at "go"
        refine i_dec (fun e3 => ?_) (fun e3 => ?_)
        · have er : r = [] := by
            cases r with
            | nil => rfl
            | cons a r =>
              have e5 : xs.length = r.length + 1 + 1 := ll
              omega
          subst er
          walk_at "go"
          refine ix ?_
          walk_at "go"
          refine i_dec (fun e4 => ?_) (fun e4 => ?_)
          · rw [decide_eq_true e4] at q'
            simpa using q'
          · rw [decide_eq_false e4] at q'
            walk_at "go"
            refine ix ?_
            walk_at "go"
            simpa using q'
        · have er : r.isEmpty = false := by
            cases r with
            | nil =>
              have e5 : xs.length = 1 := ll
              omega
            | cons a r => rfl
          rw [er] at q'
          simpa using q'
      all_goals
        refine i_isiStr false a0 rfl ?_
        walk_at "go"
        exact q'
  all_goals
    refine i_isiTup false hv rfl ?_
    walk_at "go"
    exact q'
end
end K12
namespace K12
open PySem PySem.Spec PyProof.Rows L2 Fg
local macro_rules | `(tactic| walk_at "sq") => `(tactic| first
  | assumption
  | exact .inl (.inl (by assumption))
  | exact .inl (.inl upd_same))
local macro_rules | `(tactic| walk_at "st") => `(tactic| first
  | assumption
  | exact .inl (.inl (by assumption))
  | exact .inl (.inl upd_same))
local macro_rules | `(tactic| walk_at "o") => `(tactic| first
  | omega
  | assumption
  | (simp only [List.length_append, List.length_take, List.length_drop, List.length_cons, List.length_nil, List.length_singleton, List.length_map, List.length_range, Int.toNat_natCast] ; omega))
local macro_rules | `(tactic| walk_at "s") => `(tactic| first
  | (with_reducible refine i_seq ?_)
  | (with_reducible refine i_asg ?_)
  | ((with_reducible refine' i_var ?h1 ?_); (case h1 => rfl))
  | (with_reducible refine i_c ?_)
  | ((with_reducible refine' i_gname' ?h1 ?_); (case h1 => (simp only [List.set_cons_zero, List.set_cons_succ]; rfl)))
  | (with_reducible refine i_op ?_)
  | (with_reducible refine i_ifS ?_)
  | (with_reducible refine i_for ?_)
  | (with_reducible refine i_test ?_)
  | (with_reducible refine i_B ?_)
  | (with_reducible refine i_exbl ?_)
  | (with_reducible refine i_exint ?_)
  | (with_reducible refine i_cb ?_)
  | (with_reducible refine i_nil ?_)
  | (with_reducible refine i_cons ?_)
  | (with_reducible refine i_ret ?_)
  | (with_reducible refine i_sl ?_)
  | (with_reducible refine i_nopart ?_)
  | (with_reducible refine i_part ?_)
  | (with_reducible refine i_add_int ?_)
  | (with_reducible refine i_sub ?_)
  | (with_reducible refine i_lt ?_)
  | ((with_reducible refine' i_mod ?h1 ?_); (case h1 => walk_at "o"))
  | ((with_reducible refine' i_fdiv ?h1 ?_); (case h1 => (refine cdiv_small ?_ ?_ <;> walk_at "o")))
  | ((with_reducible refine' i_sl_to ?h1 ?h2 ?_); (case h1 => walk_at "o"); (case h2 => walk_at "o"))
  | ((with_reducible refine' i_sl_from ?h1 ?h2 ?_); (case h1 => walk_at "o"); (case h2 => walk_at "o"))
  | ((with_reducible refine' i_add_str ?h1 ?_); (case h1 => walk_at "o"))
  | ((with_reducible refine' i_mul_int ?h1 ?_); (case h1 => first | (refine mul_small ?_ ?_ <;> walk_at "o") | (refine mul_smallR ?_ ?_ <;> walk_at "o")))
  | (with_reducible refine i_le ?_)
  | (with_reducible refine i_gt ?_)
  | (with_reducible refine i_ge ?_)
  | (with_reducible refine i_eq_int ?_)
  | (with_reducible refine i_eq_str ?_)
  | (with_reducible refine i_ne_int ?_)
  | (with_reducible refine i_ne_str ?_)
  | (with_reducible refine i_eq_bl ?_)
  | (with_reducible refine i_ne_bl ?_)
  | (with_reducible refine i_in_sg ?_)
  | (with_reducible refine i_notIn_sg ?_)
  | (with_reducible refine i_call ?_)
  | (with_reducible refine i_callS ?_)
  | (with_reducible refine i_sp1 ?_)
  | (with_reducible refine i_sp2 ?_)
  | (with_reducible refine i_sp3 ?_)
  | (with_reducible refine i_sp4 ?_)
  | (with_reducible refine i_sp1' ?_)
  | (with_reducible refine i_sp2' ?_)
  | (with_reducible refine i_sp3' ?_)
  | ((with_reducible refine' i_ix_lst ?h1 ?h2 ?_); (case h1 => walk_at "sq"); (case h2 => first | exact atI_nat rfl | rfl))
  | ((with_reducible refine' i_ix_tup ?h1 ?h2 ?_); (case h1 => walk_at "st"); (case h2 => first | exact atI_nat rfl | rfl))
  | (with_reducible refine i_gsub ?_)
  | (with_reducible refine i_par ?_)
  | (with_reducible refine i_lstRg1 ?_)
  | (with_reducible refine i_app ?_)
  | (with_reducible refine i_par2 ?_)
  | ((with_reducible refine' i_aug ?h1 ?_); (case h1 => rfl))
  | (with_reducible refine i_ipI ?_)
  | ((with_reducible refine' i_gtup2 ?h1 ?_); (case h1 => walk_at "st"))
  | (with_reducible refine i_int_bl ?_)
  | (with_reducible refine i_raise ?_)
  | (with_reducible refine i_mkE ?_)
  | (with_reducible refine i_ex1 ?_)
  | (with_reducible refine i_and ?_)
  | (with_reducible refine i_or ?_)
  | (with_reducible refine i_not ?_)
  | (with_reducible refine i_tt ?_)
  | (with_reducible refine i_ff ?_)
  | (with_reducible refine i_nott ?_)
  | (with_reducible refine i_notf ?_)
  | (with_reducible refine i_andV ?_)
  | (with_reducible refine i_orV ?_)
  | (with_reducible refine i_notV ?_)
  | (with_reducible refine i_ifE ?_)
  | (with_reducible refine i_tup ?_)
  | (with_reducible refine i_lst ?_)
  | (with_reducible refine i_un ?_)
  | (with_reducible refine i_neg ?_)
  | (with_reducible refine i_chain ?_)
  | (with_reducible refine i_next ?_)
  | (with_reducible refine i_retN ?_)
  | (with_reducible refine i_drop ?_)
  | (with_reducible refine i_int_int ?_)
  | (with_reducible refine i_abs ?_)
  | (with_reducible refine i_m1c ?_)
  | (with_reducible refine i_is_non ?_)
  | (with_reducible refine i_is_int ?_)
  | (with_reducible refine i_is_bl ?_)
  | (with_reducible refine i_isn_bl ?_)
  | (with_reducible refine i_is_str ?_)
  | (with_reducible refine i_is_ref ?_)
  | (with_reducible refine i_isn_non ?_)
  | (with_reducible refine i_isn_int ?_)
  | (with_reducible refine i_isn_str ?_)
  | (with_reducible refine i_isn_ref ?_)
  | (with_reducible refine i_len_str ?h1 ?_; (case h1 => walk_at "o"))
  | (with_reducible refine i_callD ?_)
  | (with_reducible refine i_spD2 ?_)
  | (with_reducible refine i_spM1 ?_)
  | (with_reducible refine i_spM2 ?_)
  | (with_reducible refine i_spM3 ?_)
  | (with_reducible refine i_spM4 ?_)
  | (with_reducible refine i_spM3d ?_)
  | (with_reducible refine i_tfld ?_)
  | (with_reducible refine i_sfld ?_)
  | (with_reducible refine i_meth ?_)
  | (with_reducible refine i_make ?_)
  | (with_reducible refine i_spl ?_)
  | (with_reducible refine i_mkE2 ?_)
  | (with_reducible refine i_ex2 ?_)
  | (with_reducible refine i_dget ?_)
  | (with_reducible refine i_tru ?_)
  | (with_reducible refine i_dput ?_)
  | (with_reducible refine i_dnotin ?_)
  | (with_reducible refine i_din ?_)
  | (with_reducible refine i_isi_int_int ?_) | (with_reducible refine i_isi_int_bool ?_) | (with_reducible refine i_isi_int_str ?_) | (with_reducible refine i_isi_int_tuple ?_) | (with_reducible refine i_isi_int_list ?_)
  | (with_reducible refine i_isi_bl_int ?_) | (with_reducible refine i_isi_bl_bool ?_) | (with_reducible refine i_isi_bl_str ?_) | (with_reducible refine i_isi_bl_tuple ?_) | (with_reducible refine i_isi_bl_list ?_)
  | (with_reducible refine i_isi_str_int ?_) | (with_reducible refine i_isi_str_bool ?_) | (with_reducible refine i_isi_str_str ?_) | (with_reducible refine i_isi_str_tuple ?_) | (with_reducible refine i_isi_str_list ?_)
  | (with_reducible refine i_isi_non_int ?_) | (with_reducible refine i_isi_non_bool ?_) | (with_reducible refine i_isi_non_str ?_) | (with_reducible refine i_isi_non_tuple ?_) | (with_reducible refine i_isi_non_list ?_))
local macro_rules | `(tactic| walk_at "go") => `(tactic| (repeat' (walk_at "s")))
local macro_rules | `(tactic| walk_at "n") => `(tactic| simp only [wipe, List.map_cons, List.map_nil, List.set_cons_zero, List.set_cons_succ])
/-- the first that is no weather -/
def badAt (ds : List PyData) : Option Nat := ds.findIdx? fun d => !isW (deepD d)
/-- what is said of these weathers: -1 for more than six or no tuple -/
def badW : PyData → Option Int
  | .tuple ds => if 6 < ds.length then some (-1) else (badAt ds).map fun n : Nat => (n : Int)
  | _ => some (-1)
theorem badAt_some {ds : List PyData} {n : Nat} {d : PyData} (h : ds[n]? = some d) (hc : isW (deepD d) = false) (hb : ∀ k < n, ∀ c, ds[k]? = some c → isW (deepD c) = true) : badAt ds = some n := by
  unfold badAt
  rw [List.findIdx?_eq_some_iff_getElem]
  obtain ⟨hp, e⟩ := List.getElem?_eq_some_iff.mp h
  refine ⟨hp, by simp [e, hc], fun j hj => ?_⟩
  have := hb j hj (ds[j]) (List.getElem?_eq_getElem (by omega))
  simp [this]
theorem badAt_none {ds : List PyData} (hb : ∀ k < ds.length, ∀ c, ds[k]? = some c → isW (deepD c) = true) : badAt ds = none := by
  unfold badAt
  rw [List.findIdx?_eq_none_iff]
  intro d hd
  obtain ⟨k, hk, e⟩ := List.mem_iff_getElem.mp hd
  rw [hb k hk d (by rw [List.getElem?_eq_getElem hk, e])]
  rfl
theorem badAt_all {ds : List PyData} (h : badAt ds = none) : ∀ d ∈ ds, isW (deepD d) = true := by
  unfold badAt at h
  rw [List.findIdx?_eq_none_iff] at h
  intro d hd
  simpa using h d hd
mutual
theorem deepD_idem : ∀ d : PyData, deepD (deepD d) = deepD d
  | .none => rfl
  | .bool _ => rfl
  | .int _ => rfl
  | .str _ => rfl
  | .list ds => congrArg PyData.tuple (deepDs_idem ds)
  | .tuple ds => congrArg PyData.tuple (deepDs_idem ds)
  | .dict _ => rfl
theorem deepDs_idem : ∀ ds : List PyData, deepD.deepDs (deepD.deepDs ds) = deepD.deepDs ds
  | [] => rfl
  | d :: r => by
    show deepD (deepD d) :: deepD.deepDs (deepD.deepDs r) = deepD d :: deepD.deepDs r
    rw [deepD_idem d, deepDs_idem r]
end
mutual
theorem deepD_depth : ∀ d : PyData, (deepD d).depth = d.depth
  | .none => rfl
  | .bool _ => rfl
  | .int _ => rfl
  | .str _ => rfl
  | .list ds => congrArg (· + 1) (deepDs_depth ds)
  | .tuple ds => congrArg (· + 1) (deepDs_depth ds)
  | .dict _ => rfl
theorem deepDs_depth : ∀ ds : List PyData, PyData.depthAll (deepD.deepDs ds) = PyData.depthAll ds
  | [] => rfl
  | d :: r => by
    show max (deepD d).depth (PyData.depthAll (deepD.deepDs r)) = max d.depth (PyData.depthAll r)
    rw [deepD_depth d, deepDs_depth r]
end
/-- the text of a word -/
def txD : PyData → List Nat
  | .int i => dec i.toNat
  | .str x => x.cps.toList
  | _ => []
def okT : PyData → Prop
  | .int i => 0 ≤ i ∧ i < 100
  | .str x => x.cps.toList.length ≤ 100
  | _ => False
def lineD (ds : List PyData) : List Nat := TL.joinL [32] (ds.map txD)
def lineW : PyData → List Nat
  | .tuple ds => lineD ds
  | _ => []
theorem okT_len {d : PyData} (h : okT d) : (txD d).length ≤ 100 := by
  cases d with
  | int i => exact Nat.le_trans (dec_len _) (by decide)
  | str x => exact h
  | _ => exact h.elim
theorem isIn_range {d : PyData} {lo hi : Int} (h : isIn d lo hi = true) : ∃ i, d = .int i ∧ lo ≤ i ∧ i ≤ hi := by
  cases d with
  | int i =>
    rw [isIn_int, Bool.and_eq_true] at h
    exact ⟨i, rfl, of_decide_eq_true h.1, of_decide_eq_true h.2⟩
  | _ => cases h
/-- a weather's words -/
theorem isW_words {d : PyData} (h : isW d = true) : ∃ ds, d = .tuple ds ∧ 1 ≤ ds.length ∧ ds.length ≤ 3 ∧ ∀ e ∈ ds, okT e := by
  cases d with
  | tuple ds =>
    cases ds with
    | nil => cases h
    | cons w r =>
      cases w with
      | str x =>
        obtain ⟨⟨l⟩⟩ := x
        have h' : wKind l r = true := h
        unfold wKind at h'
        have cx : ∀ c : Nat, okT (dS [c]) := fun c => (show 1 ≤ 100 by decide)
        split at h'
        · rename_i e
          match r, h' with
          | [n], h' =>
            obtain ⟨i, rfl, h1, h2⟩ := isIn_range (show isIn n 1 9 = true from h')
            exact ⟨_, rfl, by simp, by simp, by
              intro e' he
              simp at he
              rcases he with rfl | rfl
              · show l.length ≤ 100
                rw [e]; decide
              · exact ⟨by omega, by omega⟩⟩
        · split at h'
          · rename_i e
            match r, h' with
            | [m, n], h' =>
              have h2 : (isIn m 1 2 && isIn n 2 8 && lessD m n) = true := h'
              rw [Bool.and_eq_true, Bool.and_eq_true] at h2
              obtain ⟨i, rfl, h3, h4⟩ := isIn_range h2.1.1
              obtain ⟨j, rfl, h5, h6⟩ := isIn_range h2.1.2
              exact ⟨_, rfl, by simp, by simp, by
                intro e' he
                simp at he
                rcases he with rfl | rfl | rfl
                · show l.length ≤ 100
                  rw [e]; decide
                · exact ⟨by omega, by omega⟩
                · exact ⟨by omega, by omega⟩⟩
          · split at h'
            · rename_i e
              match r, h' with
              | [m, n], h' =>
                have h2 : (isLt m && isSg n && neqS m n) = true := h'
                rw [Bool.and_eq_true, Bool.and_eq_true] at h2
                obtain ⟨c1, rfl, _⟩ := isLt_is h2.1.1
                obtain ⟨c2, rfl, _⟩ := isSg_is h2.1.2
                exact ⟨_, rfl, by simp, by simp, by
                  intro e' he
                  simp at he
                  rcases he with rfl | rfl | rfl
                  · show l.length ≤ 100
                    rcases e with e | e <;> rw [e] <;> decide
                  · exact cx _
                  · exact cx _⟩
            · rw [Bool.and_eq_true] at h'
              have er : r = [] := List.isEmpty_iff.mp h'.1
              subst er
              exact ⟨_, rfl, by simp, by simp, by
                intro e' he
                simp at he
                subst he
                show l.length ≤ 100
                have h3 := h'.2
                rw [Bool.or_eq_true] at h3
                rcases h3 with e | e <;> rw [of_decide_eq_true e] <;> decide⟩
      | _ => cases h
  | _ => cases h
theorem strs_of {H : Hp} : ∀ {ts : List (List Nat)} {l : List V}, AtAll H l (ts.map dS) → l = ts.map S
  | [], _, h => by cases h; rfl
  | t :: r, _, h => by
    cases h with
    | cons h1 h2 =>
      rw [List.map_cons, ← strs_of h2, h1.strd]
      all_goals rfl
theorem joinL_bound (sep : List Nat) : ∀ ls : List (List Nat), (TL.joinL sep ls).length ≤ (ls.map List.length).sum + ls.length * sep.length
  | [] => Nat.zero_le _
  | [p] => by simp [TL.joinL]
  | p :: q :: r => by
    have := joinL_bound sep (q :: r)
    show (p ++ (sep ++ TL.joinL sep (q :: r))).length ≤ _
    rw [List.length_append, List.length_append, List.map_cons, List.sum_cons, List.length_cons, Nat.succ_mul]
    omega
theorem tx_sum : ∀ ds : List PyData, (∀ d ∈ ds, okT d) → ((ds.map txD).map List.length).sum ≤ 100 * ds.length
  | [], _ => Nat.le_refl _
  | d :: r, h => by
    have h1 := okT_len (h d (List.mem_cons_self ..))
    have h2 := tx_sum r fun e he => h e (List.mem_cons_of_mem _ he)
    rw [List.map_cons, List.map_cons, List.sum_cons, List.length_cons]
    omega
section
variable {P : Program} {w : World} {K : PySem.W.Frag} {mg : Str → Option Value} {base : Heap} {C_GlimError C_BadLine C_BadWeather C_Lines : Addr}
def p_check (C : Addr) : P1 := fun x H Q E => ∃ A d, Same A H ∧ At A x d ∧ d.depth < 6 ∧ (match badW d with | some n => Rz E H C "number" (.int n) | none => ∀ H', Same H H' → Q .non H')
theorem ok_check_weathers (T : Txt K mg C_GlimError C_BadLine C_BadWeather C_Lines) : OK P w K mg base (L2.CX P w) 8 "check_weathers" ["told"] (sp1  (p_check C_BadWeather)) := by
  refine OK.mkX (k := 7) T.d_check_weathers sc_check_weathers len1 fun f cdv A outer s H vs Q E hr h => ?_
  obtain ⟨x, rfl, h⟩ := h
  refine ⟨_, (pss_cons (ps_if (pw_or (pt_not (pt_val (pe_callB (cIsi K) (by rfl) T.b_isinstance (by decide +kernel) (pa_cons (pv 0) (pa_cons (pe_bltn (v := .ty "tuple") (by rfl) T.b_tuple (by decide +kernel) rfl) pa_nil))))) (pw_or1 (pt_cmpR op_gtP (pe_callB (cLen K) (by rfl) T.b_len (by decide +kernel) (pa_cons (pv 0) pa_nil)) (pe_gI 6 T.g_MOST_WEATHERS) (nomark _)))).pt (pss_one (ps_raiseP rfl (takes_of rfl rfl rfl rfl) (pmk_E (k := 0) (okx_BadWeather T) (hr.mono (by decide)) (pa_cons (pe_un un_neg pe_int) pa_nil)))) pss_nil) (pss_one (ps_for (passes_of rfl) rfl (piEnumT K rfl T.b_enumerate (pa_cons (pv 0) pa_nil)) (pgTup (n := 2) K rfl (pgs_cons (pg_name (i := 1) sc_check_weathers.nd rfl (Or.inl rfl)) (pgs_cons (pg_name (i := 2) sc_check_weathers.nd rfl (Or.inl rfl)) pgs_nil))) (pss_one (ps_if (pt_not (pt_val (pe_f (ok_is_weather (K := K) T) (hr.mono (by decide)) pass0 (pa_cons (pv 2) pa_nil)))) (pss_one (ps_raiseP rfl (takes_of rfl rfl rfl rfl) (pmk_E (k := 0) (okx_BadWeather T) (hr.mono (by decide)) (pa_cons (pv 1) pa_nil)))) pss_nil))))), ?_⟩
  show (_ : TS) { nx := fun _ H' => Q .non H', rt := Q } [some x, none, none] H
  obtain ⟨A0, d, sa, hx, hd, q⟩ := h
  replace hx := hx.same sa
  have other : isTupD d = false → badW d = some (-1) := fun h => by
    cases d <;> first
      | rfl
      | cases h
  walk_at "go"
  cases e : isTupD d with
  | false =>
    rw [other e] at q
    refine i_isiTup false hx e ?_
    walk_at "go"
    intro dd nd
    exact Rz.at q nd
  | true =>
    obtain ⟨ds, rfl⟩ : ∃ ds, d = .tuple ds := by
      cases d <;> first
        | exact ⟨_, rfl⟩
        | cases e
    refine i_isiTup true hx rfl ?_
    obtain ⟨a, xs, rfl, hH, hl, al⟩ := hx.tupled
    have ll := al.len
    change (match (if 6 < ds.length then some (-1) else (badAt ds).map fun n : Nat => (n : Int)) with | some n => Rz E H C_BadWeather "number" (.int n) | none => ∀ H', Same H H' → Q .non H') at q
    walk_at "go"
    refine i_len_tup (.inl (.inl hH)) ?_
    walk_at "go"
    refine i_dec (fun e1 => ?_) (fun e1 => ?_)
    · rw [if_pos (by omega)] at q
      walk_at "go"
      intro dd nd
      exact Rz.at q nd
    rw [if_neg (by omega)] at q
    walk_at "go"
    dsimp only
    refine f_enumT (a := a) (xs := xs) (fun R k => by walk_at "go"; exact k) (.inl (.inl hH)) (fun i σ H' => ∃ v1 v2, σ = [some (.ref a), v1, v2] ∧ Same H H' ∧ ∀ k < i, ∀ c, ds[k]? = some c → isW (deepD c) = true) ⟨none, none, rfl, Same.refl H, fun k hk => absurd hk (Nat.not_lt_zero _)⟩ (fun i σ' H' _ p => ?_) ?_ ?_
    · obtain ⟨_, _, _, s1, _⟩ := p
      rw [s1 _ _ hH, hH]
    · rintro i x σ H' Tt hi ⟨v1, v2, rfl, s1, hb⟩ nT
      show (_ : TS) _ [some (.ref a), some (.int (i : Int)), some x] _
      obtain ⟨c, hc, ac⟩ := al.get hi
      have s2 := s1.trans (same_upd (o := .tup [.int (i : Int), x]) nT)
      have dc := depth_mem (List.mem_of_getElem? hc)
      have d1 : PyData.depthAll ds + 1 < 6 := hd
      walk_at "go"
      refine ⟨_, c, Same.refl _, ac.same s2, by omega, fun H2 s3 => ?_⟩
      cases ew : isW (deepD c) with
      | true =>
        walk_at "go"
        refine ⟨_, _, rfl, s2.trans s3, fun k hk c' hc' => ?_⟩
        rcases Nat.lt_or_ge k i with h | h
        · exact hb k h c' hc'
        · have : k = i := by omega
          subst this
          rw [hc] at hc'
          cases hc'
          exact ew
      | false =>
        rw [badAt_some hc ew hb] at q
        walk_at "go"
        intro dd nd
        exact Rz.at (q.mono (s2.trans s3)) nd
    · rintro σ H' ⟨v1, v2, rfl, s1, hb⟩
      rw [badAt_none (ds := ds) (fun k hk => hb k (by omega))] at q
      walk_at "go"
      exact q _ s1
def p_weather_line : P1 := fun x H Q _ => ∃ A ds, Same A H ∧ At A x (.tuple ds) ∧ ds.length ≤ 3 ∧ (∀ d ∈ ds, okT d) ∧ ∀ H', Same H H' → Q (S (lineD ds)) H'
theorem ok_weather_line (T : Txt K mg C_GlimError C_BadLine C_BadWeather C_Lines) : OK P w K mg base CX0 1 "weather_line" ["weather"] (sp1  p_weather_line) := by
  refine OK.mk (k := 0) T.d_weather_line sc_weather_line len1 fun f cdv A outer s H vs Q E hr h => ?_
  obtain ⟨x, rfl, h⟩ := h
  refine ⟨_, (pss_one (ps_ret (peJoin K (pe_S [32]) (pe_lc (own := [("word", 1)]) (g := gName 1) (tt := tYes) (by rfl) sc_weather_line.nd (piAny K (pv 0)) (blkOk_by (own := [("word", 1)]) (N := ["weather", "word"]) (sc := (defScope s_weather_line)) (by decide +kernel)) (fun _ _ _ _ _ => (pg_name (i := 1) sc_weather_line.nd rfl (Or.inl rfl))) (fun _ _ _ _ _ => pts_nil) (fun _ _ _ _ _ => (pe_callTy call_strP (by rfl) T.b_str (by decide +kernel) (pa_cons (pv 1) pa_nil))))))), ?_⟩
  show (_ : TS) { nx := fun _ H' => Q .non H', rt := Q } [some x, none] H
  obtain ⟨A0, ds, sa, hx, hl3, hok, q⟩ := h
  obtain ⟨a, xs, rfl, hH, hl, al⟩ := hx.tupled
  walk_at "go"
  refine c_tupD sa (fun R k => by walk_at "go"; exact k) (.inl (.inl (sa _ _ hH))) al hl (fun d => dS (txD d)) (fun _ => rfl) (fun y d A1 G1 hd hy y1 QV k => ?_) (fun Dl A1 G1 l y1 e ea al2 ll => ?_)
  · show (_ : TE) [some (.ref a), some y] G1 QV
    have ok := hok d hd
    have len := okT_len ok
    walk_at "go"
    cases d with
    | int i =>
      obtain rfl := hy.intd
      obtain ⟨n, rfl⟩ := Int.eq_ofNat_of_zero_le ok.1
      have hn : n < 100 := by have := ok.2; omega
      refine .inl ⟨(n : Int), rfl, ?_, ?_⟩
      · have h1 : (n : Int).natAbs = n := rfl
        rw [h1]
        rcases Nat.eq_zero_or_pos n with z | z
        · rw [z]; decide
        · have := Nat.log2_lt (by omega : n ≠ 0) |>.mpr (show n < 2 ^ 1920 from Nat.lt_of_lt_of_le hn (by
            have : (2:Nat) ^ 7 ≤ 2 ^ 1920 := Nat.pow_le_pow_right (by decide) (by decide)
            omega))
          exact this
      · rw [dec_str n hn]
        exact k _ _ _ (Ext.refl y1.ag) (.str _ (by have := dec_len n; omega))
    | str x =>
      obtain ⟨l, rfl, rfl, hl0⟩ := hy.strl
      exact .inr ⟨_, rfl, k _ _ _ (Ext.refl y1.ag) hy⟩
    | _ => exact ok.elim
  · have el : l = (ds.map txD).map S := by
      have al3 : AtAll A1 l ((ds.map txD).map dS) := by rw [List.map_map]; exact al2
      exact strs_of al3
    rw [el] at e
    walk_at "go"
    refine i_joinG (.inl (.inl e)) ?_ ?_
    · have := tx_sum ds hok
      rw [List.length_map]
      show _ + ds.length * 1 ≤ 100000
      omega
    · exact q _ y1.gg
def p_write_weathers (C : Addr) : P1 := fun x H Q E => ∃ A d, Same A H ∧ At A x d ∧ d.depth < 6 ∧
  (match badW (deepD d) with | some n => Rz E H C "number" (.int n) | none => ∀ ds A' H' v, deepD d = .tuple ds → Ext A H A' H' → At A' v (.tuple (ds.map fun w => dS (lineW w))) → Q v H')
theorem ok_write_weathers (T : Txt K mg C_GlimError C_BadLine C_BadWeather C_Lines) : OK P w K mg base (L2.CX P w) 9 "write_weathers" ["weathers"] (sp1  (p_write_weathers C_BadWeather)) := by
  refine OK.mkX (k := 8) T.d_write_weathers sc_write_weathers len1 fun f cdv A outer s H vs Q E hr h => ?_
  obtain ⟨x, rfl, h⟩ := h
  refine ⟨_, (pss_cons (ps_set (i := 1) sc_write_weathers.nd rfl (Or.inl rfl) (pe_fd (ok_deep (K := K) T) (hr.mono (by decide)) pass0 (pa_cons (pv 0) pa_nil))) (pss_cons (ps_expr (pe_f (ok_check_weathers (K := K) T) (hr.mono (by decide)) (passes_call (takes_of rfl rfl rfl rfl) (fun _ _ _ _ h => h)) (pa_cons (pv 1) pa_nil))) (pss_one (ps_ret (pe_callTy (cTup K) (by rfl) T.b_tuple (by decide +kernel) (pa_cons (pe_lc (own := [("weather", 2)]) (g := gName 2) (tt := tYes) (by rfl) sc_write_weathers.nd (piAny K (pv 1)) (blkOk_by (own := [("weather", 2)]) (N := ["weathers", "told", "weather"]) (sc := (defScope s_write_weathers)) (by decide +kernel)) (fun _ _ _ _ _ => (pg_name (i := 2) sc_write_weathers.nd rfl (Or.inl rfl))) (fun _ _ _ _ _ => pts_nil) (fun _ _ _ _ _ => (pe_f (ok_weather_line (K := K) T) (hr.mono (by decide)) pass0 (pa_cons (pv 2) pa_nil)))) pa_nil)))))), ?_⟩
  show (_ : TS) { nx := fun _ H' => Q .non H', rt := Q } [some x, none, none] H
  obtain ⟨A0, d, sa, hx, hd, q⟩ := h
  walk_at "go"
  refine ⟨A0, d, 0, sa, hx, rfl, by decide, by decide, hd, fun A1 H1 v x1 hv => ?_⟩
  walk_at "go"
  refine ⟨A1, _, x1.ag, hv, by rw [deepD_depth]; exact hd, ?_⟩
  cases e : badW (deepD d) with
  | some n =>
    rw [e] at q
    exact q.mono x1.gg
  | none =>
  rw [e] at q
  intro H2 s2
  obtain ⟨ds, e1⟩ : ∃ ds, deepD d = .tuple ds := by
    cases e2 : deepD d with
    | tuple ds => exact ⟨ds, rfl⟩
    | _ => rw [e2] at e; cases e
  have idem := deepD_idem d
  rw [e1] at e hv idem
  have e3 : ¬ 6 < ds.length ∧ badAt ds = none := by
    have e' : (if 6 < ds.length then some (-1) else (badAt ds).map fun n : Nat => (n : Int)) = none := e
    by_cases h6 : 6 < ds.length
    · rw [if_pos h6] at e'; cases e'
    · rw [if_neg h6] at e'
      exact ⟨h6, Option.map_eq_none_iff.mp e'⟩
  have hw := badAt_all e3.2
  have idem2 : deepD.deepDs ds = ds := by
    have z : PyData.tuple (deepD.deepDs ds) = .tuple ds := idem
    injection z
  have self : ∀ w ∈ ds, deepD w = w := fun w hm => by
    obtain ⟨i, hi, ei⟩ := List.mem_iff_getElem.mp hm
    have z := congrArg (·[i]?) idem2
    rw [deepDs_map] at z
    simp only [List.getElem?_map, List.getElem?_eq_getElem hi, Option.map_some, ei] at z
    exact Option.some.inj z
  obtain ⟨a, xs, rfl, hH, hl, al⟩ := hv.tupled
  have x2 : Ext A0 H A1 H2 := ⟨x1.aa, x1.ag.trans s2, x1.gg.trans s2, x1.nw⟩
  walk_at "go"
  refine c_tupD x2.ag (fun R k => by walk_at "go"; exact k) (.inl (.inl (x2.ag _ _ hH))) al hl (fun w => dS (lineW w)) (fun _ => rfl) (fun y w A3 G3 hm hy y3 QV k => ?_) (fun Dl A3 G3 l y3 e4 ea al2 ll => ?_)
  · show (_ : TE) [some x, some (.ref a), some y] G3 QV
    have wd := hw w hm
    rw [self w hm] at wd
    obtain ⟨es, rfl, l1, l3, ho⟩ := isW_words wd
    walk_at "go"
    refine ⟨A3, es, y3.ag, hy, l3, ho, fun H4 s4 => ?_⟩
    refine k A3 H4 _ ⟨Same.refl _, y3.ag.trans s4, s4, fun b h1 h2 => absurd h1 h2⟩ (.str _ ?_)
    have := tx_sum es ho
    show (TL.joinL [32] (es.map txD)).length ≤ 10000
    have h5 := joinL_bound [32] (es.map txD)
    rw [List.length_map] at h5
    have h6 : es.length * [32].length = es.length := Nat.mul_one _
    omega
  · walk_at "go"
    refine i_tuple_lst (.inl (.inl e4)) fun tl ntl => ?_
    have na : A3 tl = none := y3.ag.free ntl
    have dl := al.len
    exact q ds _ _ _ e1 ((x2.trans y3).new ntl) (At.mkTup upd_same (al2.same (same_upd na)) (by rw [List.length_map]; omega))
end
end K12
namespace K12
open PySem PySem.Spec PyProof.Rows L2 Fg
local macro_rules | `(tactic| walk_at "sq") => `(tactic| first
  | assumption
  | exact .inl (.inl (by assumption))
  | exact .inl (.inl upd_same))
local macro_rules | `(tactic| walk_at "st") => `(tactic| first
  | assumption
  | exact .inl (.inl (by assumption))
  | exact .inl (.inl upd_same))
local macro_rules | `(tactic| walk_at "o") => `(tactic| first
  | omega
  | assumption
  | (simp only [List.length_append, List.length_take, List.length_drop, List.length_cons, List.length_nil, List.length_singleton, List.length_map, List.length_range, Int.toNat_natCast] ; omega))
local macro_rules | `(tactic| walk_at "s") => `(tactic| first
  | (with_reducible refine i_seq ?_)
  | (with_reducible refine i_asg ?_)
  | ((with_reducible refine' i_var ?h1 ?_); (case h1 => rfl))
  | (with_reducible refine i_c ?_)
  | ((with_reducible refine' i_gname' ?h1 ?_); (case h1 => (simp only [List.set_cons_zero, List.set_cons_succ]; rfl)))
  | (with_reducible refine i_op ?_)
  | (with_reducible refine i_ifS ?_)
  | (with_reducible refine i_for ?_)
  | (with_reducible refine i_test ?_)
  | (with_reducible refine i_B ?_)
  | (with_reducible refine i_exbl ?_)
  | (with_reducible refine i_exint ?_)
  | (with_reducible refine i_cb ?_)
  | (with_reducible refine i_nil ?_)
  | (with_reducible refine i_cons ?_)
  | (with_reducible refine i_ret ?_)
  | (with_reducible refine i_sl ?_)
  | (with_reducible refine i_nopart ?_)
  | (with_reducible refine i_part ?_)
  | (with_reducible refine i_add_int ?_)
  | (with_reducible refine i_sub ?_)
  | (with_reducible refine i_lt ?_)
  | ((with_reducible refine' i_mod ?h1 ?_); (case h1 => walk_at "o"))
  | ((with_reducible refine' i_fdiv ?h1 ?_); (case h1 => (refine cdiv_small ?_ ?_ <;> walk_at "o")))
  | ((with_reducible refine' i_sl_to ?h1 ?h2 ?_); (case h1 => walk_at "o"); (case h2 => walk_at "o"))
  | ((with_reducible refine' i_sl_from ?h1 ?h2 ?_); (case h1 => walk_at "o"); (case h2 => walk_at "o"))
  | ((with_reducible refine' i_add_str ?h1 ?_); (case h1 => walk_at "o"))
  | ((with_reducible refine' i_mul_int ?h1 ?_); (case h1 => first | (refine mul_small ?_ ?_ <;> walk_at "o") | (refine mul_smallR ?_ ?_ <;> walk_at "o")))
  | (with_reducible refine i_le ?_)
  | (with_reducible refine i_gt ?_)
  | (with_reducible refine i_ge ?_)
  | (with_reducible refine i_eq_int ?_)
  | (with_reducible refine i_eq_str ?_)
  | (with_reducible refine i_ne_int ?_)
  | (with_reducible refine i_ne_str ?_)
  | (with_reducible refine i_eq_bl ?_)
  | (with_reducible refine i_ne_bl ?_)
  | (with_reducible refine i_in_sg ?_)
  | (with_reducible refine i_notIn_sg ?_)
  | (with_reducible refine i_call ?_)
  | (with_reducible refine i_callS ?_)
  | (with_reducible refine i_sp1 ?_)
  | (with_reducible refine i_sp2 ?_)
  | (with_reducible refine i_sp3 ?_)
  | (with_reducible refine i_sp4 ?_)
  | (with_reducible refine i_sp1' ?_)
  | (with_reducible refine i_sp2' ?_)
  | (with_reducible refine i_sp3' ?_)
  | ((with_reducible refine' i_ix_lst ?h1 ?h2 ?_); (case h1 => walk_at "sq"); (case h2 => first | exact atI_nat rfl | rfl))
  | ((with_reducible refine' i_ix_tup ?h1 ?h2 ?_); (case h1 => walk_at "st"); (case h2 => first | exact atI_nat rfl | rfl))
  | (with_reducible refine i_gsub ?_)
  | (with_reducible refine i_par ?_)
  | (with_reducible refine i_lstRg1 ?_)
  | (with_reducible refine i_app ?_)
  | (with_reducible refine i_par2 ?_)
  | ((with_reducible refine' i_aug ?h1 ?_); (case h1 => rfl))
  | (with_reducible refine i_ipI ?_)
  | ((with_reducible refine' i_gtup2 ?h1 ?_); (case h1 => walk_at "st"))
  | (with_reducible refine i_int_bl ?_)
  | (with_reducible refine i_raise ?_)
  | (with_reducible refine i_mkE ?_)
  | (with_reducible refine i_ex1 ?_)
  | (with_reducible refine i_and ?_)
  | (with_reducible refine i_or ?_)
  | (with_reducible refine i_not ?_)
  | (with_reducible refine i_tt ?_)
  | (with_reducible refine i_ff ?_)
  | (with_reducible refine i_nott ?_)
  | (with_reducible refine i_notf ?_)
  | (with_reducible refine i_andV ?_)
  | (with_reducible refine i_orV ?_)
  | (with_reducible refine i_notV ?_)
  | (with_reducible refine i_ifE ?_)
  | (with_reducible refine i_tup ?_)
  | (with_reducible refine i_lst ?_)
  | (with_reducible refine i_un ?_)
  | (with_reducible refine i_neg ?_)
  | (with_reducible refine i_chain ?_)
  | (with_reducible refine i_next ?_)
  | (with_reducible refine i_retN ?_)
  | (with_reducible refine i_drop ?_)
  | (with_reducible refine i_int_int ?_)
  | (with_reducible refine i_abs ?_)
  | (with_reducible refine i_m1c ?_)
  | (with_reducible refine i_is_non ?_)
  | (with_reducible refine i_is_int ?_)
  | (with_reducible refine i_is_bl ?_)
  | (with_reducible refine i_isn_bl ?_)
  | (with_reducible refine i_is_str ?_)
  | (with_reducible refine i_is_ref ?_)
  | (with_reducible refine i_isn_non ?_)
  | (with_reducible refine i_isn_int ?_)
  | (with_reducible refine i_isn_str ?_)
  | (with_reducible refine i_isn_ref ?_)
  | (with_reducible refine i_len_str ?h1 ?_; (case h1 => walk_at "o"))
  | (with_reducible refine i_callD ?_)
  | (with_reducible refine i_spD2 ?_)
  | (with_reducible refine i_spM1 ?_)
  | (with_reducible refine i_spM2 ?_)
  | (with_reducible refine i_spM3 ?_)
  | (with_reducible refine i_spM4 ?_)
  | (with_reducible refine i_spM3d ?_)
  | (with_reducible refine i_tfld ?_)
  | (with_reducible refine i_sfld ?_)
  | (with_reducible refine i_meth ?_)
  | (with_reducible refine i_make ?_)
  | (with_reducible refine i_spl ?_)
  | (with_reducible refine i_mkE2 ?_)
  | (with_reducible refine i_ex2 ?_)
  | (with_reducible refine i_dget ?_)
  | (with_reducible refine i_tru ?_)
  | (with_reducible refine i_dput ?_)
  | (with_reducible refine i_dnotin ?_)
  | (with_reducible refine i_din ?_)
  | (with_reducible refine i_isi_int_int ?_) | (with_reducible refine i_isi_int_bool ?_) | (with_reducible refine i_isi_int_str ?_) | (with_reducible refine i_isi_int_tuple ?_) | (with_reducible refine i_isi_int_list ?_)
  | (with_reducible refine i_isi_bl_int ?_) | (with_reducible refine i_isi_bl_bool ?_) | (with_reducible refine i_isi_bl_str ?_) | (with_reducible refine i_isi_bl_tuple ?_) | (with_reducible refine i_isi_bl_list ?_)
  | (with_reducible refine i_isi_str_int ?_) | (with_reducible refine i_isi_str_bool ?_) | (with_reducible refine i_isi_str_str ?_) | (with_reducible refine i_isi_str_tuple ?_) | (with_reducible refine i_isi_str_list ?_)
  | (with_reducible refine i_isi_non_int ?_) | (with_reducible refine i_isi_non_bool ?_) | (with_reducible refine i_isi_non_str ?_) | (with_reducible refine i_isi_non_tuple ?_) | (with_reducible refine i_isi_non_list ?_))
local macro_rules | `(tactic| walk_at "go") => `(tactic| (repeat' (walk_at "s")))
local macro_rules | `(tactic| walk_at "n") => `(tactic| simp only [wipe, List.map_cons, List.map_nil, List.set_cons_zero, List.set_cons_succ])
/-! ### the words of a line -/
def wordsOf (x : Str) : List (List Nat) := (Txt.split x ⟨#[32]⟩).map fun y => y.cps.toList
theorem words_V (x : Str) : (Txt.split x ⟨#[32]⟩).map V.str = (wordsOf x).map S := by
  unfold wordsOf
  rw [List.map_map]
  exact List.map_congr_left fun y _ => rfl
theorem words_pos (x : Str) : 1 ≤ (wordsOf x).length := by
  unfold wordsOf
  rw [List.length_map]
  unfold Txt.split
  split
  · exact Nat.le_refl _
  · split
    · exact Nat.le_refl _
    · rw [len_partsBetween]; omega
theorem words_many (x : Str) : (wordsOf x).length ≤ x.length + 2 := by
  unfold wordsOf
  rw [List.length_map]
  exact split_le x _
theorem words_len {x : Str} {w : List Nat} (h : w ∈ wordsOf x) : w.length ≤ x.length := by
  unfold wordsOf at h
  obtain ⟨y, hy, rfl⟩ := List.mem_map.mp h
  have hyl : y.length ≤ x.length := by
    unfold Txt.split at hy
    split at hy
    · rw [List.mem_singleton.mp hy]; exact Nat.le_refl _
    · split at hy
      · rw [List.mem_singleton.mp hy]; exact Nat.le_refl _
      · unfold Builtin.Str.partsBetween at hy
        obtain ⟨p, hp, rfl⟩ := List.mem_map.mp hy
        exact le_strSub x _ _
  simpa [Str.length] using hyl
/-! ### a reader -/
theorem kN : ¬ (("texts" : Str) = "now") := by decide +kernel
def LF (t : Addr) (n : Nat) : List (Str × V) := putF "now" (.int (n : Int)) (putF "texts" (.ref t) [])
theorem LF_eq (t : Addr) (n : Nat) : LF t n = ([("texts", V.ref t), ("now", V.int (n : Int))] : List (Str × V)) := by
  show (if ("texts" : Str) = "now" then [(("texts" : Str), V.int (n : Int))] else (("texts" : Str), V.ref t) :: putF "now" (V.int (n : Int)) []) = _
  rw [if_neg kN]
  all_goals rfl
theorem LF_texts (t : Addr) (n : Nat) : (LF t n).lookup ("texts" : Str) = some (.ref t) := by
  unfold LF
  rw [lookup_putF, if_neg kN, lookup_putF, if_pos rfl]
theorem LF_now (t : Addr) (n : Nat) : (LF t n).lookup ("now" : Str) = some (.int (n : Int)) := by
  unfold LF
  rw [lookup_putF, if_pos rfl]
theorem LF_no (t : Addr) (n : Nat) {m : Str} (h1 : ¬ m = "now") (h2 : ¬ m = "texts") : (LF t n).lookup m = none := by
  unfold LF
  rw [lookup_putF, if_neg h1, lookup_putF, if_neg h2]
  all_goals rfl
theorem LF_put (t : Addr) (n m : Nat) : putF "now" (.int (m : Int)) (LF t n) = LF t m := by
  rw [LF_eq, LF_eq]
  show (if ("texts" : Str) = "now" then _ else (("texts" : Str), V.ref t) :: (if ("now" : Str) = "now" then [(("now" : Str), V.int (m : Int))] else _)) = _
  rw [if_neg kN, if_pos rfl]
  all_goals rfl
/-- a reader at p over the lines ds, at line n -/
structure Rdr (C : Addr) (A H : Hp) (p t : Addr) (n : Nat) (ds : List PyData) : Prop where
  sa : Same A H
  tx : At A (.ref t) (.tuple ds)
  ob : ∃ dx, H p = some (.ins C dx (LF t n))
theorem Rdr.same {C : Addr} {A H H' : Hp} {p t : Addr} {n : Nat} {ds : List PyData} (r : Rdr C A H p t n ds) (s : Same H H') : Rdr C A H' p t n ds := by
  obtain ⟨sa, tx, dx, ob⟩ := r
  exact ⟨sa.trans s, tx, dx, s _ _ ob⟩
/-- the wish for BadLine -/
def Bl (E : XK) (H : Hp) (C : Addr) (line word : Nat) : Prop := Rzf E H C [("word", .int (word : Int)), ("line", .int (line : Int))]
theorem Bl.mono {E : XK} {H H1 : Hp} {C : Addr} {l w : Nat} (h : Bl E H C l w) (s : Same H H1) : Bl E H1 C l w := Rzf.mono h s
theorem Bl.at {E : XK} {H : Hp} {C : Addr} {l w : Nat} (h : Bl E H C l w) {d : Addr} (n : H d = none) : E (.ref C) (some d) (upd H d (.xd [("word", .int (w : Int)), ("line", .int (l : Int))])) := Rzf.at h n
section
variable {P : Program} {w : World} {K : PySem.W.Frag} {mg : Str → Option Value} {base : Heap} {C_GlimError C_BadLine C_BadWeather C_Lines : Addr}
def p_over (C : Addr) : P1 := fun x H Q _ => ∃ A p t n ds, x = .ref p ∧ Rdr C A H p t n ds ∧ Q (.bl (decide (ds.length ≤ n))) H
theorem ok_Lines_is_over (T : Txt K mg C_GlimError C_BadLine C_BadWeather C_Lines) : MOK P w K mg base CX0 1 C_Lines "is_over" ["self"] [] (sp1  (p_over C_Lines)) := by
  refine MOK.mk (k := 0) T.m_Lines_is_over sc_Lines_is_over len1 fun f cdv A outer s H vs Q E hr h => ?_
  obtain ⟨x, rfl, h⟩ := h
  refine ⟨_, (pss_one (ps_ret (pe_cmpR op_geP (peFld K (pv 0)) (pe_callB (cLen K) (by rfl) T.b_len (by decide +kernel) (pa_cons (peFld K (pv 0)) pa_nil)) (nomark _)))), ?_⟩
  show (_ : TS) { nx := fun _ H' => Q .non H', rt := Q } [some x] H
  obtain ⟨A0, p, t, n, ds, rfl, ⟨sa, tx, dx, ob⟩, q⟩ := h
  obtain ⟨t', xs, e, hH, hl, al⟩ := tx.tupled
  cases e
  walk_at "go"
  refine i_fld ob T.cl_Lines T.na_Lines_now (LF_now t n) ?_
  walk_at "go"
  refine i_fld ob T.cl_Lines T.na_Lines_texts (LF_texts t n) ?_
  walk_at "go"
  refine i_len_tup (.inl (.inl (sa _ _ hH))) ?_
  walk_at "go"
  have e1 : decide ((xs.length : Int) ≤ (n : Int)) = decide (ds.length ≤ n) := by
    rw [al.len, Bool.eq_iff_iff]; simp
  rw [e1]
  exact q
def p_words (C CB : Addr) : P1 := fun x H Q E => ∃ A p t n ds, x = .ref p ∧ Rdr C A H p t n ds ∧
  (match ds[n]? with | some (.str z) => (∀ l, H l = none → Q (.ref l) (upd H l (.lst ((wordsOf z).map S)))) | _ => Bl E H CB n 0)
theorem ok_Lines_words (T : Txt K mg C_GlimError C_BadLine C_BadWeather C_Lines) : MOK P w K mg base (L2.CX P w) 3 C_Lines "words" ["self"] [] (sp1  (p_words C_Lines C_BadLine)) := by
  refine MOK.mkX (k := 2) T.m_Lines_words sc_Lines_words len1 fun f cdv A outer s H vs Q E hr h => ?_
  obtain ⟨x, rfl, h⟩ := h
  refine ⟨_, (pss_cons (ps_if (pw_or (pt_cmpR op_geP (peFld K (pv 0)) (pe_callB (cLen K) (by rfl) T.b_len (by decide +kernel) (pa_cons (peFld K (pv 0)) pa_nil)) (nomark _)) (pw_or1 (pt_not (pt_val (pe_callB (cIsi K) (by rfl) T.b_isinstance (by decide +kernel) (pa_cons (pe_ix (ixK K) (peFld K (pv 0)) (peFld K (pv 0)) (fun _ _ => rfl)) (pa_cons (pe_bltn (v := .ty "str") (by rfl) T.b_str (by decide +kernel) rfl) pa_nil))))))).pt (pss_one (ps_raiseP rfl (takes_of rfl rfl rfl rfl) (pmk_E2 (k := 0) (okx_BadLine T) (hr.mono (by decide)) (pa_cons (peFld K (pv 0)) (pa_cons pe_int pa_nil))))) pss_nil) (pss_one (ps_ret (peSplit K (pe_ix (ixK K) (peFld K (pv 0)) (peFld K (pv 0)) (fun _ _ => rfl)) (pa_cons (pe_S [32]) pa_nil))))), ?_⟩
  show (_ : TS) { nx := fun _ H' => Q .non H', rt := Q } [some x] H
  obtain ⟨A0, p, t, n, ds, rfl, ⟨sa, tx, dx, ob⟩, q⟩ := h
  obtain ⟨t', xs, e, hH, hl, al⟩ := tx.tupled
  cases e
  have ll := al.len
  have now : ∀ {P : V → Prop}, P (.int (n : Int)) → _ := fun {P} k => i_fld (P := P) ob T.cl_Lines T.na_Lines_now (LF_now t n) k
  have txt : ∀ {P : V → Prop}, P (.ref t) → _ := fun {P} k => i_fld (P := P) ob T.cl_Lines T.na_Lines_texts (LF_texts t n) k
  walk_at "go"
  refine now ?_
  walk_at "go"
  refine txt ?_
  walk_at "go"
  refine i_len_tup (.inl (.inl (sa _ _ hH))) ?_
  walk_at "go"
  refine i_dec (fun e => ?_) (fun e => ?_)
  · rw [List.getElem?_eq_none (by omega)] at q
    walk_at "go"
    refine now ?_
    walk_at "go"
    intro dd nd
    exact Bl.at q nd
  have hn : n < ds.length := by omega
  have hd : ds[n]? = some ds[n] := List.getElem?_eq_getElem hn
  obtain ⟨v, hv, av⟩ := al.at hd
  rw [hd] at q
  have av := av.same sa
  generalize ds[n] = d at *
  have ix : ∀ {R : VK}, R v H → ixP K (.ref t) (.int (n : Int)) H R := fun k => i_ix_tup (.inl (.inl (sa _ _ hH))) (atI_nat hv) k
  walk_at "go"
  refine txt ?_
  walk_at "go"
  refine now ?_
  walk_at "go"
  refine ix ?_
  walk_at "go"
  cases es : isStrD d with
  | false =>
    refine i_isiStr false av es ?_
    walk_at "go"
    refine now ?_
    walk_at "go"
    intro dd nd
    have q' : Bl E H C_BadLine n 0 := by
      cases d <;> first
        | exact q
        | cases es
    exact Bl.at q' nd
  | true =>
    obtain ⟨z, rfl⟩ : ∃ z, d = .str z := by
      cases d <;> first
        | exact ⟨_, rfl⟩
        | cases es
    refine i_isiStr true av rfl ?_
    walk_at "go"
    refine txt ?_
    walk_at "go"
    refine now ?_
    walk_at "go"
    refine ix ?_
    walk_at "go"
    obtain ⟨l, rfl, rfl, hl0⟩ := av.strl
    refine ⟨rfl, ?_⟩
    walk_at "go"
    refine ⟨⟨l.toArray⟩, ⟨#[32]⟩, rfl, rfl, rfl, ?_, ?_⟩
    · rw [str_len]
      exact Nat.le_trans (show l.length + 2 ≤ 100000 by omega) (by decide)
    · intro pp np
      rw [words_V]
      exact q pp np
end
end K12
namespace K12
open PySem PySem.Spec PyProof.Rows L2 Fg
open PySem.NumText (AllDigits digitsVal)
local macro_rules | `(tactic| walk_at "sq") => `(tactic| first
  | assumption
  | exact .inl (.inl (by assumption))
  | exact .inl (.inl upd_same))
local macro_rules | `(tactic| walk_at "st") => `(tactic| first
  | assumption
  | exact .inl (.inl (by assumption))
  | exact .inl (.inl upd_same))
local macro_rules | `(tactic| walk_at "o") => `(tactic| first
  | omega
  | assumption
  | (simp only [List.length_append, List.length_take, List.length_drop, List.length_cons, List.length_nil, List.length_singleton, List.length_map, List.length_range, Int.toNat_natCast] ; omega))
local macro_rules | `(tactic| walk_at "s") => `(tactic| first
  | (with_reducible refine i_seq ?_)
  | (with_reducible refine i_asg ?_)
  | ((with_reducible refine' i_var ?h1 ?_); (case h1 => rfl))
  | (with_reducible refine i_c ?_)
  | ((with_reducible refine' i_gname' ?h1 ?_); (case h1 => (simp only [List.set_cons_zero, List.set_cons_succ]; rfl)))
  | (with_reducible refine i_op ?_)
  | (with_reducible refine i_ifS ?_)
  | (with_reducible refine i_for ?_)
  | (with_reducible refine i_test ?_)
  | (with_reducible refine i_B ?_)
  | (with_reducible refine i_exbl ?_)
  | (with_reducible refine i_exint ?_)
  | (with_reducible refine i_cb ?_)
  | (with_reducible refine i_nil ?_)
  | (with_reducible refine i_cons ?_)
  | (with_reducible refine i_ret ?_)
  | (with_reducible refine i_sl ?_)
  | (with_reducible refine i_nopart ?_)
  | (with_reducible refine i_part ?_)
  | (with_reducible refine i_add_int ?_)
  | (with_reducible refine i_sub ?_)
  | (with_reducible refine i_lt ?_)
  | ((with_reducible refine' i_mod ?h1 ?_); (case h1 => walk_at "o"))
  | ((with_reducible refine' i_fdiv ?h1 ?_); (case h1 => (refine cdiv_small ?_ ?_ <;> walk_at "o")))
  | ((with_reducible refine' i_sl_to ?h1 ?h2 ?_); (case h1 => walk_at "o"); (case h2 => walk_at "o"))
  | ((with_reducible refine' i_sl_from ?h1 ?h2 ?_); (case h1 => walk_at "o"); (case h2 => walk_at "o"))
  | ((with_reducible refine' i_add_str ?h1 ?_); (case h1 => walk_at "o"))
  | ((with_reducible refine' i_mul_int ?h1 ?_); (case h1 => first | (refine mul_small ?_ ?_ <;> walk_at "o") | (refine mul_smallR ?_ ?_ <;> walk_at "o")))
  | (with_reducible refine i_le ?_)
  | (with_reducible refine i_gt ?_)
  | (with_reducible refine i_ge ?_)
  | (with_reducible refine i_eq_int ?_)
  | (with_reducible refine i_eq_str ?_)
  | (with_reducible refine i_ne_int ?_)
  | (with_reducible refine i_ne_str ?_)
  | (with_reducible refine i_eq_bl ?_)
  | (with_reducible refine i_ne_bl ?_)
  | (with_reducible refine i_in_sg ?_)
  | (with_reducible refine i_notIn_sg ?_)
  | (with_reducible refine i_call ?_)
  | (with_reducible refine i_callS ?_)
  | (with_reducible refine i_sp1 ?_)
  | (with_reducible refine i_sp2 ?_)
  | (with_reducible refine i_sp3 ?_)
  | (with_reducible refine i_sp4 ?_)
  | (with_reducible refine i_sp1' ?_)
  | (with_reducible refine i_sp2' ?_)
  | (with_reducible refine i_sp3' ?_)
  | ((with_reducible refine' i_ix_lst ?h1 ?h2 ?_); (case h1 => walk_at "sq"); (case h2 => first | exact atI_nat rfl | rfl))
  | ((with_reducible refine' i_ix_tup ?h1 ?h2 ?_); (case h1 => walk_at "st"); (case h2 => first | exact atI_nat rfl | rfl))
  | (with_reducible refine i_gsub ?_)
  | (with_reducible refine i_par ?_)
  | (with_reducible refine i_lstRg1 ?_)
  | (with_reducible refine i_app ?_)
  | (with_reducible refine i_par2 ?_)
  | ((with_reducible refine' i_aug ?h1 ?_); (case h1 => rfl))
  | (with_reducible refine i_ipI ?_)
  | ((with_reducible refine' i_gtup2 ?h1 ?_); (case h1 => walk_at "st"))
  | (with_reducible refine i_int_bl ?_)
  | (with_reducible refine i_raise ?_)
  | (with_reducible refine i_mkE ?_)
  | (with_reducible refine i_ex1 ?_)
  | (with_reducible refine i_and ?_)
  | (with_reducible refine i_or ?_)
  | (with_reducible refine i_not ?_)
  | (with_reducible refine i_tt ?_)
  | (with_reducible refine i_ff ?_)
  | (with_reducible refine i_nott ?_)
  | (with_reducible refine i_notf ?_)
  | (with_reducible refine i_andV ?_)
  | (with_reducible refine i_orV ?_)
  | (with_reducible refine i_notV ?_)
  | (with_reducible refine i_ifE ?_)
  | (with_reducible refine i_tup ?_)
  | (with_reducible refine i_lst ?_)
  | (with_reducible refine i_un ?_)
  | (with_reducible refine i_neg ?_)
  | (with_reducible refine i_chain ?_)
  | (with_reducible refine i_next ?_)
  | (with_reducible refine i_retN ?_)
  | (with_reducible refine i_drop ?_)
  | (with_reducible refine i_int_int ?_)
  | (with_reducible refine i_abs ?_)
  | (with_reducible refine i_m1c ?_)
  | (with_reducible refine i_is_non ?_)
  | (with_reducible refine i_is_int ?_)
  | (with_reducible refine i_is_bl ?_)
  | (with_reducible refine i_isn_bl ?_)
  | (with_reducible refine i_is_str ?_)
  | (with_reducible refine i_is_ref ?_)
  | (with_reducible refine i_isn_non ?_)
  | (with_reducible refine i_isn_int ?_)
  | (with_reducible refine i_isn_str ?_)
  | (with_reducible refine i_isn_ref ?_)
  | (with_reducible refine i_len_str ?h1 ?_; (case h1 => walk_at "o"))
  | (with_reducible refine i_callD ?_)
  | (with_reducible refine i_spD2 ?_)
  | (with_reducible refine i_spM1 ?_)
  | (with_reducible refine i_spM2 ?_)
  | (with_reducible refine i_spM3 ?_)
  | (with_reducible refine i_spM4 ?_)
  | (with_reducible refine i_spM3d ?_)
  | (with_reducible refine i_tfld ?_)
  | (with_reducible refine i_sfld ?_)
  | (with_reducible refine i_meth ?_)
  | (with_reducible refine i_make ?_)
  | (with_reducible refine i_spl ?_)
  | (with_reducible refine i_mkE2 ?_)
  | (with_reducible refine i_ex2 ?_)
  | (with_reducible refine i_dget ?_)
  | (with_reducible refine i_tru ?_)
  | (with_reducible refine i_dput ?_)
  | (with_reducible refine i_dnotin ?_)
  | (with_reducible refine i_din ?_)
  | (with_reducible refine i_isi_int_int ?_) | (with_reducible refine i_isi_int_bool ?_) | (with_reducible refine i_isi_int_str ?_) | (with_reducible refine i_isi_int_tuple ?_) | (with_reducible refine i_isi_int_list ?_)
  | (with_reducible refine i_isi_bl_int ?_) | (with_reducible refine i_isi_bl_bool ?_) | (with_reducible refine i_isi_bl_str ?_) | (with_reducible refine i_isi_bl_tuple ?_) | (with_reducible refine i_isi_bl_list ?_)
  | (with_reducible refine i_isi_str_int ?_) | (with_reducible refine i_isi_str_bool ?_) | (with_reducible refine i_isi_str_str ?_) | (with_reducible refine i_isi_str_tuple ?_) | (with_reducible refine i_isi_str_list ?_)
  | (with_reducible refine i_isi_non_int ?_) | (with_reducible refine i_isi_non_bool ?_) | (with_reducible refine i_isi_non_str ?_) | (with_reducible refine i_isi_non_tuple ?_) | (with_reducible refine i_isi_non_list ?_))
local macro_rules | `(tactic| walk_at "go") => `(tactic| (repeat' (walk_at "s")))
local macro_rules | `(tactic| walk_at "n") => `(tactic| simp only [wipe, List.map_cons, List.map_nil, List.set_cons_zero, List.set_cons_succ])
/-- the word at place k of line n, or what is told of it -/
def wd (ds : List PyData) (n k : Nat) : List Nat ⊕ Nat := match ds[n]? with
  | some (.str z) => if k < (wordsOf z).length then .inl ((wordsOf z).getD k []) else .inr (wordsOf z).length
  | _ => .inr 0
theorem line_len {A : Hp} {t : Addr} {ds : List PyData} {n : Nat} {z : Str} (h : At A (.ref t) (.tuple ds)) (e : ds[n]? = some (.str z)) : z.length ≤ 10000 := by
  obtain ⟨_, xs, _, _, _, al⟩ := h.tupled
  obtain ⟨v, _, av⟩ := al.at e
  obtain ⟨l, _, rfl, hl⟩ := av.strl
  rw [str_len]; exact hl
theorem wd_len {A : Hp} {t : Addr} {ds : List PyData} {n k : Nat} {w : List Nat} (h : At A (.ref t) (.tuple ds)) (e : wd ds n k = .inl w) : w.length ≤ 10000 := by
  unfold wd at e
  split at e
  · rename_i z ez
    split at e
    · rename_i hk
      have hz := line_len h ez
      have e2 : (wordsOf z).getD k [] = w := by injection e
      rw [List.getD_eq_getElem?_getD, List.getElem?_eq_getElem hk] at e2
      have := words_len (x := z) (w := w) (by rw [← e2]; exact List.getElem_mem hk)
      omega
    · cases e
  · cases e
def numW : List Nat → Option Int
  | [c] => if 49 ≤ c ∧ c ≤ 57 then some ((c : Int) - 48) else none
  | _ => none
theorem numL_digits {w : List Nat} (h : numL w = true) : AllDigits w ∧ w ≠ [] ∧ w.length ≤ 9 ∧ (w = [48] ∨ w.head? ≠ some 48) := by
  unfold numL at h
  rw [Bool.and_eq_true, Bool.and_eq_true, Bool.and_eq_true, Bool.or_eq_true, decide_eq_true_eq, decide_eq_true_eq, decide_eq_true_eq, decide_eq_true_eq, List.all_eq_true] at h
  obtain ⟨⟨⟨h1, h2⟩, h3⟩, h4⟩ := h
  refine ⟨fun c hc => ?_, fun z => ?_, h2, h4⟩
  · have := of_decide_eq_true (h3 c hc)
    simp at this
    omega
  · rw [z] at h1; simp at h1
theorem fold_ge : ∀ (r : List Nat) (acc : Nat), acc ≤ r.foldl (fun acc c => acc * 10 + (c - 48)) acc
  | [], _ => Nat.le_refl _
  | c :: r, acc => Nat.le_trans (by omega) (fold_ge r (acc * 10 + (c - 48)))
theorem num_one {w : List Nat} (h : numL w = true) : intText? ⟨w.toArray⟩ = some ((digitsVal w : Nat) : Int) ∧ (1 ≤ digitsVal w ∧ digitsVal w ≤ 9 → numW w = some ((digitsVal w : Nat) : Int)) ∧ (¬ (1 ≤ digitsVal w ∧ digitsVal w ≤ 9) → numW w = none) := by
  obtain ⟨h1, h2, h3, h4⟩ := numL_digits h
  refine ⟨intText_digits (x := ⟨w.toArray⟩) (by simpa using h1) (by simpa using h2) (by rw [str_len]; omega), ?_⟩
  match w, h1, h2, h4 with
  | [c], h1, _, _ =>
    have hc := h1 c (by simp)
    have e : digitsVal [c] = c - 48 := by simp [digitsVal]
    rw [e]
    refine ⟨fun z => ?_, fun z => ?_⟩
    · show (if 49 ≤ c ∧ c ≤ 57 then some ((c : Int) - 48) else none) = _
      rw [if_pos (by omega)]
      congr 1
      omega
    · show (if 49 ≤ c ∧ c ≤ 57 then some ((c : Int) - 48) else none) = _
      rw [if_neg (by omega)]
  | a :: b :: r, h1, _, h4 =>
    have ha := h1 a (by simp)
    have h5 : a ≠ 48 := by
      rcases h4 with z | z
      · simp at z
      · simpa using z
    have e : 10 ≤ digitsVal (a :: b :: r) := by
      have := fold_ge r ((0 * 10 + (a - 48)) * 10 + (b - 48))
      show 10 ≤ r.foldl _ ((0 * 10 + (a - 48)) * 10 + (b - 48))
      omega
    exact ⟨fun z => by omega, fun _ => rfl⟩
theorem numW_L {w : List Nat} {v : Int} (h : numW w = some v) : numL w = true := by
  match w, h with
  | [c], h =>
    have h' : (if 49 ≤ c ∧ c ≤ 57 then some ((c : Int) - 48) else none) = some v := h
    by_cases hc : 49 ≤ c ∧ c ≤ 57
    · unfold numL
      have e1 : c ∈ DG := by
        simp
        omega
      have e2 : c ≠ 48 := by omega
      rw [List.all_cons, decide_eq_true e1]
      simp [e2]
    · rw [if_neg hc] at h'
      cases h'
def seqOf : PyData → Option (List PyData)
  | .list ds => some ds
  | .tuple ds => some ds
  | _ => none
section
variable {P : Program} {w : World} {K : PySem.W.Frag} {mg : Str → Option Value} {base : Heap} {C_GlimError C_BadLine C_BadWeather C_Lines : Addr}
def p_first (C CB : Addr) : P1 := fun x H Q E => ∃ A p t n ds, x = .ref p ∧ Rdr C A H p t n ds ∧ n < ds.length ∧
  (match ds[n]? with | some (.str z) => ∀ H', Same H H' → Q (S ((wordsOf z).getD 0 [])) H' | _ => Bl E H CB n 0)
theorem ok_Lines_first_word (T : Txt K mg C_GlimError C_BadLine C_BadWeather C_Lines) : MOK P w K mg base (L2.CX P w) 4 C_Lines "first_word" ["self"] [] (sp1  (p_first C_Lines C_BadLine)) := by
  refine MOK.mkX (k := 3) T.m_Lines_first_word sc_Lines_first_word len1 fun f cdv A outer s H vs Q E hr h => ?_
  obtain ⟨x, rfl, h⟩ := h
  refine ⟨_, (pss_cons (ps_if (pt_cmpR op_geP (peFld K (pv 0)) (pe_callB (cLen K) (by rfl) T.b_len (by decide +kernel) (pa_cons (peFld K (pv 0)) pa_nil)) (nomark _)) (pss_one (ps_ret pe_non)) pss_nil) (pss_one (ps_ret (pe_ix (ixK K) (pe_m0 (pv 0) T.cl_Lines (ok_Lines_words (K := K) T) (hr.mono (by decide)) (passes_call (takes_of rfl rfl rfl rfl) (fun _ _ _ _ h => h))) pe_int (fun _ _ => rfl))))), ?_⟩
  show (_ : TS) { nx := fun _ H' => Q .non H', rt := Q } [some x] H
  obtain ⟨A0, p, t, n, ds, rfl, R, hn, q⟩ := h
  obtain ⟨sa, tx, dx, ob⟩ := id R
  obtain ⟨t', xs, e, hH, hl, al⟩ := tx.tupled
  cases e
  have ll := al.len
  have now : ∀ {P : V → Prop}, P (.int (n : Int)) → _ := fun {P} k => i_fld (P := P) ob T.cl_Lines T.na_Lines_now (LF_now t n) k
  have txt : ∀ {P : V → Prop}, P (.ref t) → _ := fun {P} k => i_fld (P := P) ob T.cl_Lines T.na_Lines_texts (LF_texts t n) k
  walk_at "go"
  refine now ?_
  walk_at "go"
  refine txt ?_
  walk_at "go"
  refine i_len_tup (.inl (.inl (sa _ _ hH))) ?_
  walk_at "go"
  rw [decide_eq_false (show ¬ ((xs.length : Int) ≤ (n : Int)) by omega)]
  walk_at "go"
  refine i_self ob (LF_no t n (by decide +kernel) (by decide +kernel)) ?_
  walk_at "go"
  refine ⟨A0, p, t, n, ds, rfl, R, ?_⟩
  have hd : ds[n]? = some ds[n] := List.getElem?_eq_getElem hn
  rw [hd] at q ⊢
  generalize ds[n] = d at *
  cases d with
  | str z =>
    intro l nl
    have hw := words_pos z
    walk_at "go"
    refine i_ix_lst (v := S ((wordsOf z).getD 0 [])) (.inl (.inl upd_same)) (atI_int (by decide) ?_) ?_
    · show ((wordsOf z).map S)[0]? = _
      rw [List.getElem?_map, List.getD_eq_getElem?_getD, List.getElem?_eq_getElem (by omega)]
      rfl
    · exact q _ (same_upd nl)
  | _ => exact q
def p_fail (C CB : Addr) : P2 := fun x y H Q E => ∃ A p t n ds, ∃ k : Nat, x = .ref p ∧ y = .int (k : Int) ∧ Rdr C A H p t n ds ∧ Bl E H CB n k
theorem ok_Lines_fail_at (T : Txt K mg C_GlimError C_BadLine C_BadWeather C_Lines) : MOK P w K mg base (L2.CX P w) 3 C_Lines "fail_at" ["self", "number"] [] (sp2  (p_fail C_Lines C_BadLine)) := by
  refine MOK.mkX (k := 2) T.m_Lines_fail_at sc_Lines_fail_at len2 fun f cdv A outer s H vs Q E hr h => ?_
  obtain ⟨x, y, rfl, h⟩ := h
  refine ⟨_, (pss_one (ps_raiseP rfl (takes_of rfl rfl rfl rfl) (pmk_E2 (k := 0) (okx_BadLine T) (hr.mono (by decide)) (pa_cons (peFld K (pv 0)) (pa_cons (pv 1) pa_nil))))), ?_⟩
  show (_ : TS) { nx := fun _ H' => Q .non H', rt := Q } [some x, some y] H
  obtain ⟨A0, p, t, n, ds, k, rfl, rfl, R, q⟩ := h
  obtain ⟨sa, tx, dx, ob⟩ := id R
  walk_at "go"
  refine i_fld ob T.cl_Lines T.na_Lines_now (LF_now t n) ?_
  walk_at "go"
  intro dd nd
  exact Bl.at q nd
def p_word_at (C CB : Addr) : P2 := fun x y H Q E => ∃ A p t n ds, ∃ k : Nat, x = .ref p ∧ y = .int (k : Int) ∧ Rdr C A H p t n ds ∧
  (match wd ds n k with | .inl w => ∀ H', Same H H' → Q (S w) H' | .inr e => Bl E H CB n e)
theorem ok_Lines_word_at (T : Txt K mg C_GlimError C_BadLine C_BadWeather C_Lines) : MOK P w K mg base (L2.CX P w) 4 C_Lines "word_at" ["self", "number"] [] (sp2  (p_word_at C_Lines C_BadLine)) := by
  refine MOK.mkX (k := 3) T.m_Lines_word_at sc_Lines_word_at len2 fun f cdv A outer s H vs Q E hr h => ?_
  obtain ⟨x, y, rfl, h⟩ := h
  refine ⟨_, (pss_cons (ps_set (i := 2) sc_Lines_word_at.nd rfl (Or.inl rfl) (pe_m0 (pv 0) T.cl_Lines (ok_Lines_words (K := K) T) (hr.mono (by decide)) (passes_call (takes_of rfl rfl rfl rfl) (fun _ _ _ _ h => h)))) (pss_cons (ps_if (pt_cmpR op_geP (pv 1) (pe_callB (cLen K) (by rfl) T.b_len (by decide +kernel) (pa_cons (pv 2) pa_nil)) (nomark _)) (pss_one (ps_raiseP rfl (takes_of rfl rfl rfl rfl) (pmk_E2 (k := 0) (okx_BadLine T) (hr.mono (by decide)) (pa_cons (peFld K (pv 0)) (pa_cons (pe_callB (cLen K) (by rfl) T.b_len (by decide +kernel) (pa_cons (pv 2) pa_nil)) pa_nil))))) pss_nil) (pss_one (ps_ret (pe_ix (ixK K) (pv 2) (pv 1) (fun _ _ => rfl)))))), ?_⟩
  show (_ : TS) { nx := fun _ H' => Q .non H', rt := Q } [some x, some y, none] H
  obtain ⟨A0, p, t, n, ds, k, rfl, rfl, R, q⟩ := h
  obtain ⟨sa, tx, dx, ob⟩ := id R
  unfold wd at q
  walk_at "go"
  refine i_self ob (LF_no t n (by decide +kernel) (by decide +kernel)) ?_
  walk_at "go"
  refine ⟨A0, p, t, n, ds, rfl, R, ?_⟩
  cases e : ds[n]? with
  | none => rw [e] at q; exact q
  | some d =>
  rw [e] at q
  cases d with
  | str z =>
    intro l nl
    have s1 : Same H (upd H l (.lst ((wordsOf z).map S))) := same_upd nl
    have zl := line_len tx e
    have wm := words_many z
    walk_at "go"
    refine i_len_lst (.inl (.inl upd_same)) ?_
    walk_at "go"
    rw [List.length_map]
    change (match (if k < (wordsOf z).length then Sum.inl ((wordsOf z).getD k []) else Sum.inr (wordsOf z).length) with | .inl w => ∀ H', Same H H' → Q (S w) H' | .inr e => Bl E H C_BadLine n e) at q
    refine i_dec (fun e1 => ?_) (fun e1 => ?_)
    · rw [if_neg (by omega)] at q
      walk_at "go"
      refine i_fld (s1 _ _ ob) T.cl_Lines T.na_Lines_now (LF_now t n) ?_
      walk_at "go"
      refine i_len_lst (.inl (.inl upd_same)) ?_
      walk_at "go"
      rw [List.length_map]
      intro dd nd
      exact Bl.at (q.mono s1) nd
    · have hk : k < (wordsOf z).length := by omega
      rw [if_pos hk] at q
      walk_at "go"
      refine i_ix_lst (v := S ((wordsOf z).getD k [])) (.inl (.inl upd_same)) (atI_nat ?_) ?_
      · rw [List.getElem?_map, List.getD_eq_getElem?_getD, List.getElem?_eq_getElem hk]
        rfl
      · exact q _ s1
  | _ => exact q
def p_number_at (C CB : Addr) : P4 := fun x y z u H Q E => ∃ A p t n ds, ∃ k : Nat, x = .ref p ∧ y = .int (k : Int) ∧ z = .int 1 ∧ u = .int 9 ∧ Rdr C A H p t n ds ∧
  (match wd ds n k with | .inl w => (match numW w with | some v => ∀ H', Same H H' → Q (.int v) H' | none => Bl E H CB n k) | .inr e => Bl E H CB n e)
theorem ok_Lines_number_at (T : Txt K mg C_GlimError C_BadLine C_BadWeather C_Lines) : MOK P w K mg base (L2.CX P w) 5 C_Lines "number_at" ["self", "number", "low", "high"] [] (sp4  (p_number_at C_Lines C_BadLine)) := by
  refine MOK.mkX (k := 4) T.m_Lines_number_at sc_Lines_number_at len4 fun f cdv A outer s H vs Q E hr h => ?_
  obtain ⟨x, y, z, u, rfl, h⟩ := h
  refine ⟨_, (pss_cons (ps_set (i := 4) sc_Lines_number_at.nd rfl (Or.inl rfl) (pe_m (pv 0) T.cl_Lines (ok_Lines_word_at (K := K) T) (hr.mono (by decide)) (passes_call (takes_of rfl rfl rfl rfl) (fun _ _ _ _ h => h)) (pa_cons (pv 1) pa_nil))) (pss_cons (ps_if (pw_or (pt_not (pt_val (pe_f (ok_is_number (K := K) T) (hr.mono (by decide)) pass0 (pa_cons (pv 4) pa_nil)))) (pw_or1 (pt_not (pt_chain op_leP op_leP (pv 2) (pe_callTy call_intTx (by rfl) T.b_int (by decide +kernel) (pa_cons (pv 4) pa_nil)) (pv 3))))).pt (pss_one (ps_raiseP rfl (takes_of rfl rfl rfl rfl) (pmk_E2 (k := 0) (okx_BadLine T) (hr.mono (by decide)) (pa_cons (peFld K (pv 0)) (pa_cons (pv 1) pa_nil))))) pss_nil) (pss_one (ps_ret (pe_callTy call_intTx (by rfl) T.b_int (by decide +kernel) (pa_cons (pv 4) pa_nil)))))), ?_⟩
  show (_ : TS) { nx := fun _ H' => Q .non H', rt := Q } [some x, some y, some z, some u, none] H
  obtain ⟨A0, p, t, n, ds, k, rfl, rfl, rfl, rfl, R, q⟩ := h
  obtain ⟨sa, tx, dx, ob⟩ := id R
  walk_at "go"
  refine i_self ob (LF_no t n (by decide +kernel) (by decide +kernel)) ?_
  walk_at "go"
  refine ⟨A0, p, t, n, ds, k, rfl, rfl, R, ?_⟩
  cases e : wd ds n k with
  | inr e1 => rw [e] at q; exact q
  | inl w =>
  rw [e] at q
  have wl := wd_len tx e
  intro H1 s1
  have bad : numW w = none → Bl E H1 C_BadLine n k := fun z => by
    have q' := q
    simp only [z] at q'
    exact Bl.mono q' s1
  walk_at "go"
  refine ⟨w, rfl, wl, ?_⟩
  cases en : numL w with
  | false =>
    have nw : numW w = none := by
      cases ew : numW w with
      | none => rfl
      | some v => rw [numW_L ew] at en; cases en
    walk_at "go"
    refine i_fld (s1 _ _ ob) T.cl_Lines T.na_Lines_now (LF_now t n) ?_
    walk_at "go"
    intro dd nd
    exact Bl.at (bad nw) nd
  | true =>
    obtain ⟨h1, h2, h3⟩ := num_one en
    have h9 := (numL_digits en).2.2.1
    have it : ∀ {Q : VK}, Q (.int ((digitsVal w : Nat) : Int)) H1 → rIntTx [S w] H1 Q := fun k => ⟨_, _, rfl, h1, by rw [str_len]; omega, k⟩
    walk_at "go"
    refine it ?_
    walk_at "go"
    have fin : ¬ (1 ≤ digitsVal w ∧ digitsVal w ≤ 9) → numW w = none := h3
    refine i_dec (fun e1 => ?_) (fun e1 => ?_)
    · walk_at "go"
      refine i_decN (fun e2 => ?_) (fun e2 => ?_)
      · walk_at "go"
        refine i_fld (s1 _ _ ob) T.cl_Lines T.na_Lines_now (LF_now t n) ?_
        walk_at "go"
        intro dd nd
        exact Bl.at (bad (fin (by omega))) nd
      · walk_at "go"
        refine it ?_
        simp only [h2 (by omega)] at q
        exact q _ s1
    · walk_at "go"
      refine i_fld (s1 _ _ ob) T.cl_Lines T.na_Lines_now (LF_now t n) ?_
      walk_at "go"
      intro dd nd
      exact Bl.at (bad (fin (by omega))) nd
def sgOk (lit : Bool) (w : List Nat) : Bool := if lit then ltL w else sgL w
def p_sign_at (C CB : Addr) : P3 := fun x y z H Q E => ∃ A p t n ds, ∃ (k : Nat) (lit : Bool), x = .ref p ∧ y = .int (k : Int) ∧ z = .bl lit ∧ Rdr C A H p t n ds ∧
  (match wd ds n k with | .inl w => if sgOk lit w = true then ∀ H', Same H H' → Q (S w) H' else Bl E H CB n k | .inr e => Bl E H CB n e)
theorem sign_lem {w : List Nat} : ltL w = (sgL w && !decide (w = [46])) := by
  rw [ltL_sg, decide_not]
theorem ok_Lines_sign_at (T : Txt K mg C_GlimError C_BadLine C_BadWeather C_Lines) : MOK P w K mg base (L2.CX P w) 5 C_Lines "sign_at" ["self", "number", "lit"] [.bl false] (sp3  (p_sign_at C_Lines C_BadLine)) := by
  refine MOK.mkX (k := 4) T.m_Lines_sign_at sc_Lines_sign_at len3 fun f cdv A outer s H vs Q E hr h => ?_
  obtain ⟨x, y, z, rfl, h⟩ := h
  refine ⟨_, (pss_cons (ps_set (i := 3) sc_Lines_sign_at.nd rfl (Or.inl rfl) (pe_m (pv 0) T.cl_Lines (ok_Lines_word_at (K := K) T) (hr.mono (by decide)) (passes_call (takes_of rfl rfl rfl rfl) (fun _ _ _ _ h => h)) (pa_cons (pv 1) pa_nil))) (pss_cons (ps_if (pw_or (pt_not (pt_val (pe_f (ok_is_sign (K := K) T) (hr.mono (by decide)) pass0 (pa_cons (pv 3) pa_nil)))) (pw_or1 (pw_and (pt_val (pv 2)) (pw_and1 (pt_cmpR (opEq K hr.units) (pv 3) (pe_S [46]) (nomark _)))).pt)).pt (pss_one (ps_raiseP rfl (takes_of rfl rfl rfl rfl) (pmk_E2 (k := 0) (okx_BadLine T) (hr.mono (by decide)) (pa_cons (peFld K (pv 0)) (pa_cons (pv 1) pa_nil))))) pss_nil) (pss_one (ps_ret (pv 3))))), ?_⟩
  show (_ : TS) { nx := fun _ H' => Q .non H', rt := Q } [some x, some y, some z, none] H
  obtain ⟨A0, p, t, n, ds, k, lit, rfl, rfl, rfl, R, q⟩ := h
  obtain ⟨sa, tx, dx, ob⟩ := id R
  walk_at "go"
  refine i_self ob (LF_no t n (by decide +kernel) (by decide +kernel)) ?_
  walk_at "go"
  refine ⟨A0, p, t, n, ds, k, rfl, rfl, R, ?_⟩
  cases e : wd ds n k with
  | inr e1 => rw [e] at q; exact q
  | inl w =>
  rw [e] at q
  have wl := wd_len tx e
  change (if sgOk lit w = true then ∀ H', Same H H' → Q (S w) H' else Bl E H C_BadLine n k) at q
  intro H1 s1
  have bad : sgOk lit w = false → Bl E H1 C_BadLine n k := fun z => by
    rw [z, if_neg (by decide)] at q
    exact Bl.mono q s1
  have good : sgOk lit w = true → Q (S w) H1 := fun z => by
    rw [z, if_pos rfl] at q
    exact q _ s1
  walk_at "go"
  refine ⟨_, .str w wl, ?_⟩
  rw [isSg_str]
  cases es : sgL w with
  | false =>
    walk_at "go"
    refine i_fld (s1 _ _ ob) T.cl_Lines T.na_Lines_now (LF_now t n) ?_
    walk_at "go"
    intro dd nd
    refine Bl.at (bad ?_) nd
    cases lit with
    | true => show ltL w = false; rw [sign_lem, es]; rfl
    | false => exact es
  | true =>
    cases lit with
    | false =>
      walk_at "go"
      exact good es
    | true =>
      walk_at "go"
      refine i_dec (fun e1 => ?_) (fun e1 => ?_)
      · walk_at "go"
        refine i_fld (s1 _ _ ob) T.cl_Lines T.na_Lines_now (LF_now t n) ?_
        walk_at "go"
        intro dd nd
        refine Bl.at (bad ?_) nd
        show ltL w = false
        rw [sign_lem, es, decide_eq_true e1]; rfl
      · walk_at "go"
        refine good ?_
        show ltL w = true
        rw [sign_lem, es, decide_eq_false e1]; rfl
theorem okk_Lines_sign_at (T : Txt K mg C_GlimError C_BadLine C_BadWeather C_Lines) : KOK P w K mg base (L2.CX P w) 5 C_Lines "sign_at" ["self", "number", "lit"] 2 ["lit"] (sp3  (p_sign_at C_Lines C_BadLine)) := by
  refine KOK.mkX (k := 4) T.k_Lines_sign_at sc_Lines_sign_at len3 fun f cdv A outer s H vs Q E hr h => ?_
  obtain ⟨x, y, z, rfl, h⟩ := h
  refine ⟨_, (pss_cons (ps_set (i := 3) sc_Lines_sign_at.nd rfl (Or.inl rfl) (pe_m (pv 0) T.cl_Lines (ok_Lines_word_at (K := K) T) (hr.mono (by decide)) (passes_call (takes_of rfl rfl rfl rfl) (fun _ _ _ _ h => h)) (pa_cons (pv 1) pa_nil))) (pss_cons (ps_if (pw_or (pt_not (pt_val (pe_f (ok_is_sign (K := K) T) (hr.mono (by decide)) pass0 (pa_cons (pv 3) pa_nil)))) (pw_or1 (pw_and (pt_val (pv 2)) (pw_and1 (pt_cmpR (opEq K hr.units) (pv 3) (pe_S [46]) (nomark _)))).pt)).pt (pss_one (ps_raiseP rfl (takes_of rfl rfl rfl rfl) (pmk_E2 (k := 0) (okx_BadLine T) (hr.mono (by decide)) (pa_cons (peFld K (pv 0)) (pa_cons (pv 1) pa_nil))))) pss_nil) (pss_one (ps_ret (pv 3))))), ?_⟩
  show (_ : TS) { nx := fun _ H' => Q .non H', rt := Q } [some x, some y, some z, none] H
  obtain ⟨A0, p, t, n, ds, k, lit, rfl, rfl, rfl, R, q⟩ := h
  obtain ⟨sa, tx, dx, ob⟩ := id R
  walk_at "go"
  refine i_self ob (LF_no t n (by decide +kernel) (by decide +kernel)) ?_
  walk_at "go"
  refine ⟨A0, p, t, n, ds, k, rfl, rfl, R, ?_⟩
  cases e : wd ds n k with
  | inr e1 => rw [e] at q; exact q
  | inl w =>
  rw [e] at q
  have wl := wd_len tx e
  change (if sgOk lit w = true then ∀ H', Same H H' → Q (S w) H' else Bl E H C_BadLine n k) at q
  intro H1 s1
  have bad : sgOk lit w = false → Bl E H1 C_BadLine n k := fun z => by
    rw [z, if_neg (by decide)] at q
    exact Bl.mono q s1
  have good : sgOk lit w = true → Q (S w) H1 := fun z => by
    rw [z, if_pos rfl] at q
    exact q _ s1
  walk_at "go"
  refine ⟨_, .str w wl, ?_⟩
  rw [isSg_str]
  cases es : sgL w with
  | false =>
    walk_at "go"
    refine i_fld (s1 _ _ ob) T.cl_Lines T.na_Lines_now (LF_now t n) ?_
    walk_at "go"
    intro dd nd
    refine Bl.at (bad ?_) nd
    cases lit with
    | true => show ltL w = false; rw [sign_lem, es]; rfl
    | false => exact es
  | true =>
    cases lit with
    | false =>
      walk_at "go"
      exact good es
    | true =>
      walk_at "go"
      refine i_dec (fun e1 => ?_) (fun e1 => ?_)
      · walk_at "go"
        refine i_fld (s1 _ _ ob) T.cl_Lines T.na_Lines_now (LF_now t n) ?_
        walk_at "go"
        intro dd nd
        refine Bl.at (bad ?_) nd
        show ltL w = false
        rw [sign_lem, es, decide_eq_true e1]; rfl
      · walk_at "go"
        refine good ?_
        show ltL w = true
        rw [sign_lem, es, decide_eq_false e1]; rfl
end
end K12
namespace K12
open PySem PySem.Spec PyProof.Rows L2 Fg
local macro_rules | `(tactic| walk_at "sq") => `(tactic| first
  | assumption
  | exact .inl (.inl (by assumption))
  | exact .inl (.inl upd_same))
local macro_rules | `(tactic| walk_at "st") => `(tactic| first
  | assumption
  | exact .inl (.inl (by assumption))
  | exact .inl (.inl upd_same))
local macro_rules | `(tactic| walk_at "o") => `(tactic| first
  | omega
  | assumption
  | (simp only [List.length_append, List.length_take, List.length_drop, List.length_cons, List.length_nil, List.length_singleton, List.length_map, List.length_range, Int.toNat_natCast] ; omega))
local macro_rules | `(tactic| walk_at "s") => `(tactic| first
  | (with_reducible refine i_seq ?_)
  | (with_reducible refine i_asg ?_)
  | ((with_reducible refine' i_var ?h1 ?_); (case h1 => rfl))
  | (with_reducible refine i_c ?_)
  | ((with_reducible refine' i_gname' ?h1 ?_); (case h1 => (simp only [List.set_cons_zero, List.set_cons_succ]; rfl)))
  | (with_reducible refine i_op ?_)
  | (with_reducible refine i_ifS ?_)
  | (with_reducible refine i_for ?_)
  | (with_reducible refine i_test ?_)
  | (with_reducible refine i_B ?_)
  | (with_reducible refine i_exbl ?_)
  | (with_reducible refine i_exint ?_)
  | (with_reducible refine i_cb ?_)
  | (with_reducible refine i_nil ?_)
  | (with_reducible refine i_cons ?_)
  | (with_reducible refine i_ret ?_)
  | (with_reducible refine i_sl ?_)
  | (with_reducible refine i_nopart ?_)
  | (with_reducible refine i_part ?_)
  | (with_reducible refine i_add_int ?_)
  | (with_reducible refine i_sub ?_)
  | (with_reducible refine i_lt ?_)
  | ((with_reducible refine' i_mod ?h1 ?_); (case h1 => walk_at "o"))
  | ((with_reducible refine' i_fdiv ?h1 ?_); (case h1 => (refine cdiv_small ?_ ?_ <;> walk_at "o")))
  | ((with_reducible refine' i_sl_to ?h1 ?h2 ?_); (case h1 => walk_at "o"); (case h2 => walk_at "o"))
  | ((with_reducible refine' i_sl_from ?h1 ?h2 ?_); (case h1 => walk_at "o"); (case h2 => walk_at "o"))
  | ((with_reducible refine' i_add_str ?h1 ?_); (case h1 => walk_at "o"))
  | ((with_reducible refine' i_mul_int ?h1 ?_); (case h1 => first | (refine mul_small ?_ ?_ <;> walk_at "o") | (refine mul_smallR ?_ ?_ <;> walk_at "o")))
  | (with_reducible refine i_le ?_)
  | (with_reducible refine i_gt ?_)
  | (with_reducible refine i_ge ?_)
  | (with_reducible refine i_eq_int ?_)
  | (with_reducible refine i_eq_str ?_)
  | (with_reducible refine i_ne_int ?_)
  | (with_reducible refine i_ne_str ?_)
  | (with_reducible refine i_eq_bl ?_)
  | (with_reducible refine i_ne_bl ?_)
  | (with_reducible refine i_in_sg ?_)
  | (with_reducible refine i_notIn_sg ?_)
  | (with_reducible refine i_call ?_)
  | (with_reducible refine i_callS ?_)
  | (with_reducible refine i_sp1 ?_)
  | (with_reducible refine i_sp2 ?_)
  | (with_reducible refine i_sp3 ?_)
  | (with_reducible refine i_sp4 ?_)
  | (with_reducible refine i_sp1' ?_)
  | (with_reducible refine i_sp2' ?_)
  | (with_reducible refine i_sp3' ?_)
  | ((with_reducible refine' i_ix_lst ?h1 ?h2 ?_); (case h1 => walk_at "sq"); (case h2 => first | exact atI_nat rfl | rfl))
  | ((with_reducible refine' i_ix_tup ?h1 ?h2 ?_); (case h1 => walk_at "st"); (case h2 => first | exact atI_nat rfl | rfl))
  | (with_reducible refine i_gsub ?_)
  | (with_reducible refine i_par ?_)
  | (with_reducible refine i_lstRg1 ?_)
  | (with_reducible refine i_app ?_)
  | (with_reducible refine i_par2 ?_)
  | ((with_reducible refine' i_aug ?h1 ?_); (case h1 => rfl))
  | (with_reducible refine i_ipI ?_)
  | ((with_reducible refine' i_gtup2 ?h1 ?_); (case h1 => walk_at "st"))
  | (with_reducible refine i_int_bl ?_)
  | (with_reducible refine i_raise ?_)
  | (with_reducible refine i_mkE ?_)
  | (with_reducible refine i_ex1 ?_)
  | (with_reducible refine i_and ?_)
  | (with_reducible refine i_or ?_)
  | (with_reducible refine i_not ?_)
  | (with_reducible refine i_tt ?_)
  | (with_reducible refine i_ff ?_)
  | (with_reducible refine i_nott ?_)
  | (with_reducible refine i_notf ?_)
  | (with_reducible refine i_andV ?_)
  | (with_reducible refine i_orV ?_)
  | (with_reducible refine i_notV ?_)
  | (with_reducible refine i_ifE ?_)
  | (with_reducible refine i_tup ?_)
  | (with_reducible refine i_lst ?_)
  | (with_reducible refine i_un ?_)
  | (with_reducible refine i_neg ?_)
  | (with_reducible refine i_chain ?_)
  | (with_reducible refine i_next ?_)
  | (with_reducible refine i_retN ?_)
  | (with_reducible refine i_drop ?_)
  | (with_reducible refine i_int_int ?_)
  | (with_reducible refine i_abs ?_)
  | (with_reducible refine i_m1c ?_)
  | (with_reducible refine i_is_non ?_)
  | (with_reducible refine i_is_int ?_)
  | (with_reducible refine i_is_bl ?_)
  | (with_reducible refine i_isn_bl ?_)
  | (with_reducible refine i_is_str ?_)
  | (with_reducible refine i_is_ref ?_)
  | (with_reducible refine i_isn_non ?_)
  | (with_reducible refine i_isn_int ?_)
  | (with_reducible refine i_isn_str ?_)
  | (with_reducible refine i_isn_ref ?_)
  | (with_reducible refine i_len_str ?h1 ?_; (case h1 => walk_at "o"))
  | (with_reducible refine i_callD ?_)
  | (with_reducible refine i_spD2 ?_)
  | (with_reducible refine i_spM1 ?_)
  | (with_reducible refine i_spM2 ?_)
  | (with_reducible refine i_spM3 ?_)
  | (with_reducible refine i_spM4 ?_)
  | (with_reducible refine i_spM3d ?_)
  | (with_reducible refine i_tfld ?_)
  | (with_reducible refine i_sfld ?_)
  | (with_reducible refine i_meth ?_)
  | (with_reducible refine i_make ?_)
  | (with_reducible refine i_spl ?_)
  | (with_reducible refine i_mkE2 ?_)
  | (with_reducible refine i_ex2 ?_)
  | (with_reducible refine i_dget ?_)
  | (with_reducible refine i_tru ?_)
  | (with_reducible refine i_dput ?_)
  | (with_reducible refine i_dnotin ?_)
  | (with_reducible refine i_din ?_)
  | (with_reducible refine i_isi_int_int ?_) | (with_reducible refine i_isi_int_bool ?_) | (with_reducible refine i_isi_int_str ?_) | (with_reducible refine i_isi_int_tuple ?_) | (with_reducible refine i_isi_int_list ?_)
  | (with_reducible refine i_isi_bl_int ?_) | (with_reducible refine i_isi_bl_bool ?_) | (with_reducible refine i_isi_bl_str ?_) | (with_reducible refine i_isi_bl_tuple ?_) | (with_reducible refine i_isi_bl_list ?_)
  | (with_reducible refine i_isi_str_int ?_) | (with_reducible refine i_isi_str_bool ?_) | (with_reducible refine i_isi_str_str ?_) | (with_reducible refine i_isi_str_tuple ?_) | (with_reducible refine i_isi_str_list ?_)
  | (with_reducible refine i_isi_non_int ?_) | (with_reducible refine i_isi_non_bool ?_) | (with_reducible refine i_isi_non_str ?_) | (with_reducible refine i_isi_non_tuple ?_) | (with_reducible refine i_isi_non_list ?_))
local macro_rules | `(tactic| walk_at "go") => `(tactic| (repeat' (walk_at "s")))
local macro_rules | `(tactic| walk_at "n") => `(tactic| simp only [wipe, List.map_cons, List.map_nil, List.set_cons_zero, List.set_cons_succ])
theorem i_methN {σ : L2.St} {H : Hp} {Q : VK} {C : Addr} {m : Str} {n nk : Nat} {sp : Sp} {E : XK} {to : TE} {ta tk : TA} (q : to σ H fun x H1 => ∃ a dx fs, x = .ref a ∧ H1 a = some (.ins C dx fs) ∧ fs.lookup m = none ∧
    ta σ H1 fun vs H2 => tk σ H2 fun zs H3 => vs.length + 1 = n ∧ zs.length = nk ∧ sp (x :: (vs ++ zs)) H3 Q E) : tMethN C m n nk sp E to ta tk σ H Q := q
/-- all but p stands as it did -/
def But (p : Addr) (H H' : Hp) : Prop := ∀ b o, b ≠ p → H b = some o → H' b = some o
theorem But.refl (p : Addr) (H : Hp) : But p H H := fun _ _ _ e => e
theorem But.trans {p : Addr} {H H1 H2 : Hp} (a : But p H H1) (b : But p H1 H2) : But p H H2 := fun c o n e => b c o n (a c o n e)
theorem But.of {p : Addr} {H H' : Hp} (s : Same H H') : But p H H' := fun c o _ e => s c o e
theorem But.put {p : Addr} {H : Hp} {o : HO} : But p H (upd H p o) := fun c o' n e => by rw [upd_ne n]; exact e
theorem But.known {p : Addr} {A H H' : Hp} (h : But p H H') (s : Same A H) (n : A p = none) : Same A H' := fun b o e => h b o (ne_of_none e n) (s b o e)
section
variable {P : Program} {w : World} {K : PySem.W.Frag} {mg : Str → Option Value} {base : Heap} {C_GlimError C_BadLine C_BadWeather C_Lines : Addr}
def p_close (C CB : Addr) : P2 := fun x y H Q E => ∃ A p t n ds dx z, ∃ k : Nat, x = .ref p ∧ y = .int (k : Int) ∧ Same A H ∧ At A (.ref t) (.tuple ds) ∧ H p = some (.ins C dx (LF t n)) ∧ ds[n]? = some (.str z) ∧
  (if k < (wordsOf z).length then Bl E H CB n k else ∀ H', But p H H' → H' p = some (.ins C dx (LF t (n + 1))) → Q .non H')
theorem ok_Lines_close_at (T : Txt K mg C_GlimError C_BadLine C_BadWeather C_Lines) : MOK P w K mg base (L2.CX P w) 4 C_Lines "close_at" ["self", "number"] [] (sp2  (p_close C_Lines C_BadLine)) := by
  refine MOK.mkX (k := 3) T.m_Lines_close_at sc_Lines_close_at len2 fun f cdv A outer s H vs Q E hr h => ?_
  obtain ⟨x, y, rfl, h⟩ := h
  refine ⟨_, (pss_cons (ps_if (pt_cmpR op_gtP (pe_callB (cLen K) (by rfl) T.b_len (by decide +kernel) (pa_cons (pe_m0 (pv 0) T.cl_Lines (ok_Lines_words (K := K) T) (hr.mono (by decide)) (passes_call (takes_of rfl rfl rfl rfl) (fun _ _ _ _ h => h))) pa_nil)) (pv 1) (nomark _)) (pss_one (ps_raiseP rfl (takes_of rfl rfl rfl rfl) (pmk_E2 (k := 0) (okx_BadLine T) (hr.mono (by decide)) (pa_cons (peFld K (pv 0)) (pa_cons (pv 1) pa_nil))))) pss_nil) (pss_one (psFldAug K (pv 0) pe_int in_add))), ?_⟩
  show (_ : TS) { nx := fun _ H' => Q .non H', rt := Q } [some x, some y] H
  obtain ⟨A0, p, t, n, ds, dx, z, k, rfl, rfl, sa, tx, ob, e, q⟩ := h
  have R : Rdr C_Lines A0 H p t n ds := ⟨sa, tx, dx, ob⟩
  have zl := line_len tx e
  have wm := words_many z
  walk_at "go"
  refine i_self ob (LF_no t n (by decide +kernel) (by decide +kernel)) ?_
  walk_at "go"
  refine ⟨A0, p, t, n, ds, rfl, R, ?_⟩
  rw [e]
  intro l nl
  have s1 : Same H (upd H l (.lst ((wordsOf z).map S))) := same_upd nl
  have ob1 := s1 _ _ ob
  walk_at "go"
  refine i_len_lst (.inl (.inl upd_same)) ?_
  walk_at "go"
  rw [List.length_map]
  refine i_dec (fun e1 => ?_) (fun e1 => ?_)
  · rw [if_pos (by omega)] at q
    walk_at "go"
    refine i_fld ob1 T.cl_Lines T.na_Lines_now (LF_now t n) ?_
    walk_at "go"
    intro dd nd
    exact Bl.at (q.mono s1) nd
  · rw [if_neg (by omega)] at q
    walk_at "go"
    refine ⟨_, rfl, p, C_Lines, dx, _, _, rfl, ob1, T.cl_Lines, T.na_Lines_now, LF_now t n, _, _, rfl, rfl, dx, _, ob1, by rw [LF_eq]; show 2 < 1000; decide, ?_⟩
    have e2 : putF "now" (V.int ((n : Int) + 1)) (LF t n) = LF t (n + 1) := by
      have := LF_put t n (n + 1)
      rw [← this]
      rfl
    rw [e2]
    exact q _ ((But.of s1).trans But.put) upd_same
def p_init (C CB : Addr) : P3 := fun x y z H Q E => ∃ A p dx d, x = .ref p ∧ z = .int 0 ∧ Same A H ∧ A p = none ∧ H p = some (.ins C dx []) ∧ At A y d ∧
  (match seqOf d with
    | none => Bl E H CB 0 0
    | some ds => ∀ A' H' t, Same A A' → Same A' H' → But p H H' → (∀ b, A b = none → A' b ≠ none → H b = none) → H' p = some (.ins C dx (LF t 0)) → At A' (.ref t) (.tuple ds) → Q .non H')
theorem ok_Lines___init__ (T : Txt K mg C_GlimError C_BadLine C_BadWeather C_Lines) : MkOK P w K mg base (L2.CX P w) 3 "Lines" C_Lines ["self", "texts", "at"] [.int 0] (sp3  (p_init C_Lines C_BadLine)) := by
  refine MkOK.mkX (k := 2) T.m_Lines___init__ sc_Lines___init__ len3 fun f cdv A outer s H vs Q E hr h => ?_
  obtain ⟨x, y, z, rfl, h⟩ := h
  refine ⟨_, (pss_cons (ps_if (pt_not (pt_val (pe_callB (cIsiT K) (by rfl) T.b_isinstance (by decide +kernel) (pa_cons (pv 1) (pa_cons (pe_tup (pa_cons (pe_bltn (v := .ty "list") (by rfl) T.b_list (by decide +kernel) rfl) (pa_cons (pe_bltn (v := .ty "tuple") (by rfl) T.b_tuple (by decide +kernel) rfl) pa_nil))) pa_nil))))) (pss_one (ps_raiseP rfl (takes_of rfl rfl rfl rfl) (pmk_E2 (k := 0) (okx_BadLine T) (hr.mono (by decide)) (pa_cons pe_int (pa_cons pe_int pa_nil))))) pss_nil) (pss_cons (psFld K (pv 0) (pe_callTy (cTup K) (by rfl) T.b_tuple (by decide +kernel) (pa_cons (pv 1) pa_nil))) (pss_one (psFld K (pv 0) (pv 2))))), ?_⟩
  show (_ : TS) { nx := fun _ H' => Q .non H', rt := Q } [some x, some y, some z] H
  obtain ⟨A0, p, dx, d, rfl, rfl, sa, np, ob, hd, q⟩ := h
  walk_at "go"
  refine i_new (by show 2 ≤ 100000; omega) fun tp ntp => ?_
  have s1 : Same H (upd H tp (.tup [.ty "list", .ty "tuple"])) := same_upd ntp
  have ob1 := s1 _ _ ob
  have fin : ∀ (A' H2 : Hp) (t : Addr) (ds : List PyData), seqOf d = some ds → Same A0 A' → Same A' H2 → Same H H2 → A' p = none → (∀ b, A0 b = none → A' b ≠ none → H b = none) → At A' (.ref t) (.tuple ds) →
      Q .non (upd (upd H2 p (.ins C_Lines dx (putF "texts" (.ref t) []))) p (.ins C_Lines dx (putF "now" (.int 0) (putF "texts" (.ref t) [])))) := fun A' H2 t ds e sA s2 s3 n2 nw at2 => by
    rw [e] at q
    refine q A' _ t sA (fun b o eb => ?_) (fun b o nb eb => ?_) nw upd_same at2
    · have nb := ne_of_none eb n2
      rw [upd_ne nb, upd_ne nb]; exact s2 b o eb
    · rw [upd_ne nb, upd_ne nb]; exact s3 b o eb
  walk_at "go"
  cases es : isSeqD d with
  | false =>
    refine i_isiSeq false ((hd.same sa).same s1) upd_same es ?_
    walk_at "go"
    intro dd nd
    have q' : Bl E H C_BadLine 0 0 := by
      cases d <;> first
        | exact q
        | cases es
    exact Bl.at (q'.mono s1) nd
  | true =>
    refine i_isiSeq true ((hd.same sa).same s1) upd_same es ?_
    walk_at "go"
    cases d
    case list ds =>
      obtain ⟨a, xs, rfl, hH, hl, al⟩ := hd.listed
      refine i_tuple_lst (.inl (.inl (s1 _ _ (sa _ _ hH)))) fun t nt => ?_
      have s2 := s1.trans (same_upd (o := .tup xs) nt)
      have nat0 : A0 t = none := sa.free (s1.free nt)
      have ob2 := s2 _ _ ob
      walk_at "go"
      refine i_put ob2 T.cl_Lines T.na_Lines_texts (by show 0 < 1000; decide) ?_
      walk_at "go"
      refine i_put upd_same T.cl_Lines T.na_Lines_now (by show 1 < 1000; decide) ?_
      refine fin (upd A0 t (.tup xs)) _ t ds rfl (same_upd nat0) (fun b o eb => ?_) s2 ?_ (fun b h1 h2 => ?_) (At.mkTup upd_same (al.same (same_upd nat0)) (by rw [← al.len]; exact hl))
      · by_cases hb : b = t
        · rw [hb, upd_same] at eb
          rw [hb, upd_same]; exact eb
        · rw [upd_ne hb] at eb
          rw [upd_ne hb]; exact s1 _ _ (sa _ _ eb)
      · have : p ≠ t := ne_of_none (s1 _ _ ob) nt
        rw [upd_ne this]; exact np
      · by_cases hb : b = t
        · rw [hb]; exact s1.free nt
        · rw [upd_ne hb] at h2
          exact absurd h1 h2
    case tuple ds =>
      obtain ⟨a, xs, rfl, hH, hl, al⟩ := hd.tupled
      refine ⟨a, xs, rfl, .inr ⟨.inl (.inl (s1 _ _ (sa _ _ hH))), ?_⟩⟩
      walk_at "go"
      refine i_put ob1 T.cl_Lines T.na_Lines_texts (by show 0 < 1000; decide) ?_
      walk_at "go"
      refine i_put upd_same T.cl_Lines T.na_Lines_now (by show 1 < 1000; decide) ?_
      exact fin A0 _ a ds rfl (Same.refl _) (sa.trans s1) s1 np (fun b h1 h2 => absurd h1 h2) hd
    all_goals cases es
/-! ### a line as a weather -/
inductive Fm | num | lit | sg
def forms (w : List Nat) : Option (List Fm) :=
  if w = cLose then some [.num] else if w = cMiss then some [.num, .num] else if w = cTake ∨ w = cAlw then some [.lit, .sg] else if w = cGlow ∨ w = cLate then some [] else none
def fmD : Fm → List Nat → Option PyData
  | .num, w => (numW w).map PyData.int
  | .lit, w => if ltL w then some (dS w) else none
  | .sg, w => if sgL w then some (dS w) else none
/-- the words from place k on, by their forms: the data, or the first place that cannot stand -/
def readFm (ws : List (List Nat)) : Nat → List Fm → List PyData ⊕ Nat
  | k, [] => if k < ws.length then .inr k else .inl []
  | k, f :: fs => if k < ws.length then
      match fmD f (ws.getD k []) with
      | some d => (match readFm ws (k + 1) fs with | .inl r => .inl (d :: r) | .inr e => .inr e)
      | none => .inr k
    else .inr ws.length
def readLn : PyData → List PyData ⊕ Nat
  | .str z => (match forms ((wordsOf z).getD 0 []) with
      | none => .inr 0
      | some fs => (match readFm (wordsOf z) 1 fs with | .inl r => .inl (dS ((wordsOf z).getD 0 []) :: r) | .inr e => .inr e))
  | _ => .inr 0
def p_weather_at (C CB : Addr) : P1 := fun x H Q E => ∃ A p t n ds dx d, x = .ref p ∧ Same A H ∧ A p = none ∧ At A (.ref t) (.tuple ds) ∧ H p = some (.ins C dx (LF t n)) ∧ ds[n]? = some d ∧
  (match readLn d with
    | .inr e => Bl E H CB n e
    | .inl es => ∀ H1 H' a xs, Same H H1 → But p H1 H' → H' p = some (.ins C dx (LF t (n + 1))) → H a = none → a ≠ p → H' a = some (.tup xs) → AtAll A xs es → Q (.ref a) H')
theorem ok_weather_at (T : Txt K mg C_GlimError C_BadLine C_BadWeather C_Lines) : OK P w K mg base (L2.CX P w) 6 "weather_at" ["reader"] (sp1  (p_weather_at C_Lines C_BadLine)) := by
  refine OK.mkX (k := 5) T.d_weather_at sc_weather_at len1 fun f cdv A outer s H vs Q E hr h => ?_
  obtain ⟨x, rfl, h⟩ := h
  refine ⟨_, (pss_cons (ps_set (i := 1) sc_weather_at.nd rfl (Or.inl rfl) (pe_m0 (pv 0) T.cl_Lines (ok_Lines_first_word (K := K) T) (hr.mono (by decide)) (passes_call (takes_of rfl rfl rfl rfl) (fun _ _ _ _ h => h)))) (pss_cons (ps_set (i := 2) sc_weather_at.nd rfl (Or.inl rfl) (pe_tup (pa_cons (pv 1) pa_nil))) (Evl.pss_cut (ps_if (pt_cmpR (opEq K hr.units) (pv 1) (pe_S [108, 111, 115, 101]) (nomark _)) (pss_one (ps_set (i := 2) sc_weather_at.nd rfl (Or.inl rfl) (pe_tup (pa_cons (pv 1) (pa_cons (pe_m (pv 0) T.cl_Lines (ok_Lines_number_at (K := K) T) (hr.mono (by decide)) (passes_call (takes_of rfl rfl rfl rfl) (fun _ _ _ _ h => h)) (pa_cons pe_int (pa_cons pe_int (pa_cons pe_int pa_nil)))) pa_nil))))) (pss_one (ps_if (pt_cmpR (opEq K hr.units) (pv 1) (pe_S [109, 105, 115, 115]) (nomark _)) (pss_one (ps_set (i := 2) sc_weather_at.nd rfl (Or.inl rfl) (pe_tup (pa_cons (pv 1) (pa_cons (pe_m (pv 0) T.cl_Lines (ok_Lines_number_at (K := K) T) (hr.mono (by decide)) (passes_call (takes_of rfl rfl rfl rfl) (fun _ _ _ _ h => h)) (pa_cons pe_int (pa_cons pe_int (pa_cons pe_int pa_nil)))) (pa_cons (pe_m (pv 0) T.cl_Lines (ok_Lines_number_at (K := K) T) (hr.mono (by decide)) (passes_call (takes_of rfl rfl rfl rfl) (fun _ _ _ _ h => h)) (pa_cons pe_int (pa_cons pe_int (pa_cons pe_int pa_nil)))) pa_nil)))))) (pss_one (ps_if (pw_or (pt_cmpR (opEq K hr.units) (pv 1) (pe_S [116, 97, 107, 101]) (nomark _)) (pw_or1 (pt_cmpR (opEq K hr.units) (pv 1) (pe_S [97, 108, 119, 97, 121, 115]) (nomark _)))).pt (pss_one (ps_set (i := 2) sc_weather_at.nd rfl (Or.inl rfl) (pe_tup (pa_cons (pv 1) (pa_cons (pe_mk_kw (pv 0) T.cl_Lines (okk_Lines_sign_at (K := K) T) (hr.mono (by decide)) (passes_call (takes_of rfl rfl rfl rfl) (fun _ _ _ _ h => h)) (pa_cons pe_int pa_nil) (pk_cons pe_bl pk_nil) (fun f m => m.kp)) (pa_cons (pe_md (pv 0) T.cl_Lines (ok_Lines_sign_at (K := K) T) (hr.mono (by decide)) (passes_call (takes_of rfl rfl rfl rfl) (fun _ _ _ _ h => h)) (pa_cons pe_int pa_nil)) pa_nil)))))) (pss_one (ps_if (pw_and (pt_cmpR (opNe K hr.units) (pv 1) (pe_S [103, 108, 111, 119]) (nomark _)) (pw_and1 (pt_cmpR (opNe K hr.units) (pv 1) (pe_S [108, 97, 116, 101]) (nomark _)))).pt (pss_one (ps_expr (pe_m (pv 0) T.cl_Lines (ok_Lines_fail_at (K := K) T) (hr.mono (by decide)) (passes_call (takes_of rfl rfl rfl rfl) (fun _ _ _ _ h => h)) (pa_cons pe_int pa_nil)))) pss_nil))))))) (pss_cons (ps_expr (pe_m (pv 0) T.cl_Lines (ok_Lines_close_at (K := K) T) (hr.mono (by decide)) (passes_call (takes_of rfl rfl rfl rfl) (fun _ _ _ _ h => h)) (pa_cons (pe_callB (cLen K) (by rfl) T.b_len (by decide +kernel) (pa_cons (pv 2) pa_nil)) pa_nil))) (pss_one (ps_ret (pv 2))))))), ?_⟩
  show (_ : TS) { nx := fun _ H' => Q .non H', rt := Q } [some x, none, none] H
  obtain ⟨A0, p, t, n, ds, dx, d, rfl, sa, np, tx, ob, hd, q⟩ := h
  have hn : n < ds.length := (List.getElem?_eq_some_iff.mp hd).1
  have R : ∀ {H1 : Hp}, Same H H1 → Rdr C_Lines A0 H1 p t n ds := fun s => ⟨sa.trans s, tx, dx, s _ _ ob⟩
  have me : ∀ {H1 : Hp} {m : Str} {P : Prop}, Same H H1 → ¬ m = "now" → ¬ m = "texts" → P → ∃ a' dx fs, V.ref p = .ref a' ∧ H1 a' = some (.ins C_Lines dx fs) ∧ fs.lookup m = none ∧ P := fun s h1 h2 k => i_self (s _ _ ob) (LF_no t n h1 h2) k
  walk_at "go"
  refine me (Same.refl H) (by decide +kernel) (by decide +kernel) ?_
  walk_at "go"
  refine ⟨A0, p, t, n, ds, rfl, R (Same.refl H), hn, ?_⟩
  rw [hd]
  cases d with
  | str z =>
    intro H1 s1
    have zl := line_len tx hd
    have wp := words_pos z
    have wdk : ∀ k, wd ds n k = if k < (wordsOf z).length then .inl ((wordsOf z).getD k []) else .inr (wordsOf z).length := fun k => by
      unfold wd
      rw [hd]
    have w0l : ((wordsOf z).getD 0 []).length ≤ 10000 := wd_len (k := 0) tx (by rw [wdk, if_pos (by omega)])
    have wkl : ∀ k, k < (wordsOf z).length → ((wordsOf z).getD k []).length ≤ 10000 := fun k hk => wd_len (k := k) tx (by rw [wdk, if_pos hk])
    have bad : ∀ (e : Nat) {H2 : Hp}, Same H H2 → readLn (.str z) = .inr e → Bl E H2 C_BadLine n e := fun e H2 s2 z1 => by
      rw [z1] at q
      exact Bl.mono q s2
    have rl : readLn (.str z) = (match forms ((wordsOf z).getD 0 []) with
      | none => .inr 0
      | some fs => (match readFm (wordsOf z) 1 fs with | .inl r => .inl (dS ((wordsOf z).getD 0 []) :: r) | .inr e => .inr e)) := rfl
    generalize hws : wordsOf z = ws at *
    generalize readLn (.str z) = rd at *
    have num : ∀ (k : Nat) (H2 : Hp) (Q1 : VK), Same H H2 → (¬ k < ws.length → rd = .inr ws.length) → (k < ws.length → numW (ws.getD k []) = none → rd = .inr k) →
        (k < ws.length → ∀ v, numW (ws.getD k []) = some v → ∀ H3, Same H2 H3 → Q1 (.int v) H3) → p_number_at C_Lines C_BadLine (.ref p) (.int (k : Int)) (.int 1) (.int 9) H2 Q1 E := fun k H2 Q1 s2 h1 h2 h3 => by
      refine ⟨A0, p, t, n, ds, k, rfl, rfl, rfl, rfl, R s2, ?_⟩
      rw [wdk]
      by_cases hk : k < ws.length
      · rw [if_pos hk]
        cases e : numW (ws.getD k []) with
        | none => simp only [e]; exact bad k s2 (h2 hk e)
        | some v => simp only [e]; exact h3 hk v e
      · rw [if_neg hk]
        exact bad _ s2 (h1 hk)
    have sgn : ∀ (lit : Bool) (k : Nat) (H2 : Hp) (Q1 : VK), Same H H2 → (¬ k < ws.length → rd = .inr ws.length) → (k < ws.length → sgOk lit (ws.getD k []) = false → rd = .inr k) →
        (k < ws.length → sgOk lit (ws.getD k []) = true → ∀ H3, Same H2 H3 → Q1 (S (ws.getD k [])) H3) → p_sign_at C_Lines C_BadLine (.ref p) (.int (k : Int)) (.bl lit) H2 Q1 E := fun lit k H2 Q1 s2 h1 h2 h3 => by
      refine ⟨A0, p, t, n, ds, k, lit, rfl, rfl, rfl, R s2, ?_⟩
      rw [wdk]
      by_cases hk : k < ws.length
      · rw [if_pos hk]
        show if sgOk lit (ws.getD k []) = true then _ else _
        cases e : sgOk lit (ws.getD k []) with
        | false => rw [if_neg (by decide)]; exact bad k s2 (h2 hk e)
        | true => rw [if_pos rfl]; exact h3 hk e
      · rw [if_neg hk]
        exact bad _ s2 (h1 hk)
    generalize hw : ws.getD 0 [] = w at *
    walk_at "go"
    refine i_new (by show 1 ≤ 100000; omega) fun a1 na1 => ?_
    have na1' : H a1 = none := s1.free na1
    have s2 : Same H (upd H1 a1 (.tup [S w])) := s1.trans (same_upd na1)
    walk_at "go"
    refine i_cut (fun σ H' => ∃ a xs es, σ = [some (.ref p), some (S w), some (.ref a)] ∧ Same H H' ∧ H a = none ∧ H' a = some (.tup xs) ∧ AtAll A0 xs es ∧ xs.length ≤ 3 ∧ rd = if xs.length < ws.length then .inr xs.length else .inl es) ?_ ?_
    · have r0 : ∀ k, readFm ws k [] = if k < ws.length then .inr k else .inl [] := fun k => rfl
      have r1 : ∀ k f fs, readFm ws k (f :: fs) = if k < ws.length then
          (match fmD f (ws.getD k []) with
          | some d => (match readFm ws (k + 1) fs with | .inl r => .inl (d :: r) | .inr e => .inr e)
          | none => .inr k) else .inr ws.length := fun k f fs => rfl
      have fn : ∀ l, fmD .num l = (numW l).map PyData.int := fun _ => rfl
      have fl : ∀ l, fmD .lit l = if ltL l then some (dS l) else none := fun _ => rfl
      have fs : ∀ l, fmD .sg l = if sgL l then some (dS l) else none := fun _ => rfl
      walk_at "go"
      refine i_dec (fun e1 => ?_) (fun e1 => ?_)
      · have hf : forms w = some [.num] := by unfold forms; rw [if_pos e1]
        rw [hf] at rl
        walk_at "go"
        refine me s2 (by decide +kernel) (by decide +kernel) ?_
        walk_at "go"
        refine num 1 _ _ s2 (fun hk => ?_) (fun hk e => ?_) (fun hk v e H3 s3 => ?_)
        · rw [rl]; simp only [r1, if_neg hk]
        · rw [rl]; simp only [r1, if_pos hk, fn, e, Option.map_none]
        · walk_at "go"
          refine i_new (by show 2 ≤ 100000; omega) fun a2 na2 => ?_
          have s4 := s2.trans s3
          refine ⟨a2, _, [dS w, .int v], rfl, s4.trans (same_upd na2), s4.free na2, upd_same, .cons (.str _ w0l) (.one (.int v)), by show 2 ≤ 3; decide, ?_⟩
          rw [rl]; simp only [r1, if_pos hk, fn, e, Option.map_some, r0]
          show _ = if 2 < ws.length then _ else _
          by_cases h2 : 2 < ws.length
          · simp only [if_pos h2]
            rfl
          · simp only [if_neg h2]
      walk_at "go"
      refine i_dec (fun e2 => ?_) (fun e2 => ?_)
      · have hf : forms w = some [.num, .num] := by unfold forms; rw [if_neg e1, if_pos e2]
        rw [hf] at rl
        walk_at "go"
        refine me s2 (by decide +kernel) (by decide +kernel) ?_
        walk_at "go"
        refine num 1 _ _ s2 (fun hk => ?_) (fun hk e => ?_) (fun hk v e H3 s3 => ?_)
        · rw [rl]; simp only [r1, if_neg hk]
        · rw [rl]; simp only [r1, if_pos hk, fn, e, Option.map_none]
        have s4 := s2.trans s3
        walk_at "go"
        refine me s4 (by decide +kernel) (by decide +kernel) ?_
        walk_at "go"
        refine num 2 _ _ s4 (fun hk2 => ?_) (fun hk2 e' => ?_) (fun hk2 v2 e' H4 s5 => ?_)
        · rw [rl]; simp only [r1, if_pos hk, fn, e, Option.map_some, if_neg hk2]
        · rw [rl]; simp only [r1, if_pos hk, fn, e, Option.map_some, if_pos hk2, e', Option.map_none]
        · walk_at "go"
          refine i_new (by show 3 ≤ 100000; omega) fun a2 na2 => ?_
          have s6 := s4.trans s5
          refine ⟨a2, _, [dS w, .int v, .int v2], rfl, s6.trans (same_upd na2), s6.free na2, upd_same, .cons (.str _ w0l) (.cons (.int v) (.one (.int v2))), by show 3 ≤ 3; decide, ?_⟩
          rw [rl]; simp only [r1, if_pos hk, fn, e, Option.map_some, if_pos hk2, e', r0]
          show _ = if 3 < ws.length then _ else _
          by_cases h2 : 3 < ws.length
          · simp only [if_pos h2]
            rfl
          · simp only [if_neg h2]
      walk_at "go"
      refine i_dec (fun e3 => ?_) (fun e3 => ?_)
      · have hf : forms w = some [.lit, .sg] := by unfold forms; rw [if_neg e1, if_neg e2, if_pos (.inl e3)]
        rw [hf] at rl
        walk_at "go"
        refine i_methN ?_
        walk_at "go"
        refine me s2 (by decide +kernel) (by decide +kernel) ?_
        walk_at "go"
        refine ⟨rfl, rfl, i_spM3d ?_⟩
        refine sgn true 1 _ _ s2 (fun hk => ?_) (fun hk e => ?_) (fun hk e H3 s3 => ?_)
        · rw [rl]; simp only [r1, if_neg hk]
        · have e' : ltL (ws.getD 1 []) = false := e
          rw [rl]; simp only [r1, if_pos hk, fl, e', Bool.false_eq_true, if_false]
        have s4 := s2.trans s3
        have e' : ltL (ws.getD 1 []) = true := e
        walk_at "go"
        refine me s4 (by decide +kernel) (by decide +kernel) ?_
        walk_at "go"
        refine sgn false 2 _ _ s4 (fun hk2 => ?_) (fun hk2 e5 => ?_) (fun hk2 e5 H4 s5 => ?_)
        · rw [rl]; simp only [r1, if_pos hk, fl, e', if_true, if_neg hk2]
        · have e6 : sgL (ws.getD 2 []) = false := e5
          rw [rl]; simp only [r1, if_pos hk, fl, e', if_true, if_pos hk2, fs, e6, Bool.false_eq_true, if_false]
        · have e6 : sgL (ws.getD 2 []) = true := e5
          walk_at "go"
          refine i_new (by show 3 ≤ 100000; omega) fun a2 na2 => ?_
          have s6 := s4.trans s5
          refine ⟨a2, _, [dS w, dS (ws.getD 1 []), dS (ws.getD 2 [])], rfl, s6.trans (same_upd na2), s6.free na2, upd_same, .cons (.str _ w0l) (.cons (.str _ (wkl 1 hk)) (.one (.str _ (wkl 2 hk2)))), by show 3 ≤ 3; decide, ?_⟩
          rw [rl]; simp only [r1, if_pos hk, fl, e', if_true, if_pos hk2, fs, e6, r0]
          show _ = if 3 < ws.length then _ else _
          by_cases h2 : 3 < ws.length
          · simp only [if_pos h2]
            rfl
          · simp only [if_neg h2]
      walk_at "go"
      refine i_dec (fun e4 => ?_) (fun e4 => ?_)
      · have hf : forms w = some [.lit, .sg] := by unfold forms; rw [if_neg e1, if_neg e2, if_pos (.inr e4)]
        rw [hf] at rl
        walk_at "go"
        refine i_methN ?_
        walk_at "go"
        refine me s2 (by decide +kernel) (by decide +kernel) ?_
        walk_at "go"
        refine ⟨rfl, rfl, i_spM3d ?_⟩
        refine sgn true 1 _ _ s2 (fun hk => ?_) (fun hk e => ?_) (fun hk e H3 s3 => ?_)
        · rw [rl]; simp only [r1, if_neg hk]
        · have e' : ltL (ws.getD 1 []) = false := e
          rw [rl]; simp only [r1, if_pos hk, fl, e', Bool.false_eq_true, if_false]
        have s4 := s2.trans s3
        have e' : ltL (ws.getD 1 []) = true := e
        walk_at "go"
        refine me s4 (by decide +kernel) (by decide +kernel) ?_
        walk_at "go"
        refine sgn false 2 _ _ s4 (fun hk2 => ?_) (fun hk2 e5 => ?_) (fun hk2 e5 H4 s5 => ?_)
        · rw [rl]; simp only [r1, if_pos hk, fl, e', if_true, if_neg hk2]
        · have e6 : sgL (ws.getD 2 []) = false := e5
          rw [rl]; simp only [r1, if_pos hk, fl, e', if_true, if_pos hk2, fs, e6, Bool.false_eq_true, if_false]
        · have e6 : sgL (ws.getD 2 []) = true := e5
          walk_at "go"
          refine i_new (by show 3 ≤ 100000; omega) fun a2 na2 => ?_
          have s6 := s4.trans s5
          refine ⟨a2, _, [dS w, dS (ws.getD 1 []), dS (ws.getD 2 [])], rfl, s6.trans (same_upd na2), s6.free na2, upd_same, .cons (.str _ w0l) (.cons (.str _ (wkl 1 hk)) (.one (.str _ (wkl 2 hk2)))), by show 3 ≤ 3; decide, ?_⟩
          rw [rl]; simp only [r1, if_pos hk, fl, e', if_true, if_pos hk2, fs, e6, r0]
          show _ = if 3 < ws.length then _ else _
          by_cases h2 : 3 < ws.length
          · simp only [if_pos h2]
            rfl
          · simp only [if_neg h2]
      have hf0 : ¬ (w = cTake ∨ w = cAlw) := fun z => z.elim e3 e4
      have glow : (w = cGlow ∨ w = cLate) → ∃ a xs es, ([some (.ref p), some (S w), some (.ref a1)] : L2.St) = [some (.ref p), some (S w), some (.ref a)] ∧ Same H (upd H1 a1 (.tup [S w])) ∧ H a = none ∧ (upd H1 a1 (.tup [S w])) a = some (.tup xs) ∧ AtAll A0 xs es ∧ xs.length ≤ 3 ∧ rd = if xs.length < ws.length then .inr xs.length else .inl es := fun hg => by
        have hf : forms w = some [] := by unfold forms; rw [if_neg e1, if_neg e2, if_neg hf0, if_pos hg]
        rw [hf] at rl
        refine ⟨a1, [S w], [dS w], rfl, s2, na1', upd_same, .one (.str _ w0l), by show 1 ≤ 3; decide, ?_⟩
        rw [rl]; simp only [r0]
        show _ = if 1 < ws.length then _ else _
        by_cases h2 : 1 < ws.length
        · simp only [if_pos h2]
          rfl
        · simp only [if_neg h2]
      walk_at "go"
      refine i_decN (fun e5 => ?_) (fun e5 => ?_)
      · walk_at "go"
        refine i_decN (fun e6 => ?_) (fun e6 => ?_)
        · have hf : forms w = none := by unfold forms; rw [if_neg e1, if_neg e2, if_neg hf0, if_neg (fun z => z.elim e5 e6)]
          rw [hf] at rl
          walk_at "go"
          refine me s2 (by decide +kernel) (by decide +kernel) ?_
          walk_at "go"
          exact ⟨A0, p, t, n, ds, 0, rfl, rfl, R s2, bad 0 s2 rl⟩
        · walk_at "go"
          exact glow (.inr e6)
      · walk_at "go"
        exact glow (.inl e5)
    · rintro σ H' ⟨a, xs, es, rfl, s3, na, ha, al, l3, e⟩
      have nap : a ≠ p := fun z => by rw [z, ob] at na; cases na
      walk_at "go"
      refine me s3 (by decide +kernel) (by decide +kernel) ?_
      walk_at "go"
      refine i_len_tup (.inl (.inl ha)) ?_
      walk_at "go"
      refine ⟨A0, p, t, n, ds, dx, z, xs.length, rfl, rfl, sa.trans s3, tx, s3 _ _ ob, hd, ?_⟩
      rw [hws]
      by_cases hk : xs.length < ws.length
      · rw [if_pos hk] at e ⊢
        exact bad _ s3 e
      · rw [if_neg hk] at e ⊢
        intro H4 b4 o4
        rw [e] at q
        walk_at "go"
        exact q H' H4 a xs s3 b4 o4 na nap (b4 _ _ nap ha) al
  | _ => exact q
end
end K12
namespace K12
open PySem PySem.Spec PyProof.Rows L2 Fg
local macro_rules | `(tactic| walk_at "sq") => `(tactic| first
  | assumption
  | exact .inl (.inl (by assumption))
  | exact .inl (.inl upd_same))
local macro_rules | `(tactic| walk_at "st") => `(tactic| first
  | assumption
  | exact .inl (.inl (by assumption))
  | exact .inl (.inl upd_same))
local macro_rules | `(tactic| walk_at "o") => `(tactic| first
  | omega
  | assumption
  | (simp only [List.length_append, List.length_take, List.length_drop, List.length_cons, List.length_nil, List.length_singleton, List.length_map, List.length_range, Int.toNat_natCast] ; omega))
local macro_rules | `(tactic| walk_at "s") => `(tactic| first
  | (with_reducible refine i_seq ?_)
  | (with_reducible refine i_asg ?_)
  | ((with_reducible refine' i_var ?h1 ?_); (case h1 => rfl))
  | (with_reducible refine i_c ?_)
  | ((with_reducible refine' i_gname' ?h1 ?_); (case h1 => (simp only [List.set_cons_zero, List.set_cons_succ]; rfl)))
  | (with_reducible refine i_op ?_)
  | (with_reducible refine i_ifS ?_)
  | (with_reducible refine i_for ?_)
  | (with_reducible refine i_test ?_)
  | (with_reducible refine i_B ?_)
  | (with_reducible refine i_exbl ?_)
  | (with_reducible refine i_exint ?_)
  | (with_reducible refine i_cb ?_)
  | (with_reducible refine i_nil ?_)
  | (with_reducible refine i_cons ?_)
  | (with_reducible refine i_ret ?_)
  | (with_reducible refine i_sl ?_)
  | (with_reducible refine i_nopart ?_)
  | (with_reducible refine i_part ?_)
  | (with_reducible refine i_add_int ?_)
  | (with_reducible refine i_sub ?_)
  | (with_reducible refine i_lt ?_)
  | ((with_reducible refine' i_mod ?h1 ?_); (case h1 => walk_at "o"))
  | ((with_reducible refine' i_fdiv ?h1 ?_); (case h1 => (refine cdiv_small ?_ ?_ <;> walk_at "o")))
  | ((with_reducible refine' i_sl_to ?h1 ?h2 ?_); (case h1 => walk_at "o"); (case h2 => walk_at "o"))
  | ((with_reducible refine' i_sl_from ?h1 ?h2 ?_); (case h1 => walk_at "o"); (case h2 => walk_at "o"))
  | ((with_reducible refine' i_add_str ?h1 ?_); (case h1 => walk_at "o"))
  | ((with_reducible refine' i_mul_int ?h1 ?_); (case h1 => first | (refine mul_small ?_ ?_ <;> walk_at "o") | (refine mul_smallR ?_ ?_ <;> walk_at "o")))
  | (with_reducible refine i_le ?_)
  | (with_reducible refine i_gt ?_)
  | (with_reducible refine i_ge ?_)
  | (with_reducible refine i_eq_int ?_)
  | (with_reducible refine i_eq_str ?_)
  | (with_reducible refine i_ne_int ?_)
  | (with_reducible refine i_ne_str ?_)
  | (with_reducible refine i_eq_bl ?_)
  | (with_reducible refine i_ne_bl ?_)
  | (with_reducible refine i_in_sg ?_)
  | (with_reducible refine i_notIn_sg ?_)
  | (with_reducible refine i_call ?_)
  | (with_reducible refine i_callS ?_)
  | (with_reducible refine i_sp1 ?_)
  | (with_reducible refine i_sp2 ?_)
  | (with_reducible refine i_sp3 ?_)
  | (with_reducible refine i_sp4 ?_)
  | (with_reducible refine i_sp1' ?_)
  | (with_reducible refine i_sp2' ?_)
  | (with_reducible refine i_sp3' ?_)
  | ((with_reducible refine' i_ix_lst ?h1 ?h2 ?_); (case h1 => walk_at "sq"); (case h2 => first | exact atI_nat rfl | rfl))
  | ((with_reducible refine' i_ix_tup ?h1 ?h2 ?_); (case h1 => walk_at "st"); (case h2 => first | exact atI_nat rfl | rfl))
  | (with_reducible refine i_gsub ?_)
  | (with_reducible refine i_par ?_)
  | (with_reducible refine i_lstRg1 ?_)
  | (with_reducible refine i_app ?_)
  | (with_reducible refine i_par2 ?_)
  | ((with_reducible refine' i_aug ?h1 ?_); (case h1 => rfl))
  | (with_reducible refine i_ipI ?_)
  | ((with_reducible refine' i_gtup2 ?h1 ?_); (case h1 => walk_at "st"))
  | (with_reducible refine i_int_bl ?_)
  | (with_reducible refine i_raise ?_)
  | (with_reducible refine i_mkE ?_)
  | (with_reducible refine i_ex1 ?_)
  | (with_reducible refine i_and ?_)
  | (with_reducible refine i_or ?_)
  | (with_reducible refine i_not ?_)
  | (with_reducible refine i_tt ?_)
  | (with_reducible refine i_ff ?_)
  | (with_reducible refine i_nott ?_)
  | (with_reducible refine i_notf ?_)
  | (with_reducible refine i_andV ?_)
  | (with_reducible refine i_orV ?_)
  | (with_reducible refine i_notV ?_)
  | (with_reducible refine i_ifE ?_)
  | (with_reducible refine i_tup ?_)
  | (with_reducible refine i_lst ?_)
  | (with_reducible refine i_un ?_)
  | (with_reducible refine i_neg ?_)
  | (with_reducible refine i_chain ?_)
  | (with_reducible refine i_next ?_)
  | (with_reducible refine i_retN ?_)
  | (with_reducible refine i_drop ?_)
  | (with_reducible refine i_int_int ?_)
  | (with_reducible refine i_abs ?_)
  | (with_reducible refine i_m1c ?_)
  | (with_reducible refine i_is_non ?_)
  | (with_reducible refine i_is_int ?_)
  | (with_reducible refine i_is_bl ?_)
  | (with_reducible refine i_isn_bl ?_)
  | (with_reducible refine i_is_str ?_)
  | (with_reducible refine i_is_ref ?_)
  | (with_reducible refine i_isn_non ?_)
  | (with_reducible refine i_isn_int ?_)
  | (with_reducible refine i_isn_str ?_)
  | (with_reducible refine i_isn_ref ?_)
  | (with_reducible refine i_len_str ?h1 ?_; (case h1 => walk_at "o"))
  | (with_reducible refine i_callD ?_)
  | (with_reducible refine i_spD2 ?_)
  | (with_reducible refine i_spM1 ?_)
  | (with_reducible refine i_spM2 ?_)
  | (with_reducible refine i_spM3 ?_)
  | (with_reducible refine i_spM4 ?_)
  | (with_reducible refine i_spM3d ?_)
  | (with_reducible refine i_tfld ?_)
  | (with_reducible refine i_sfld ?_)
  | (with_reducible refine i_meth ?_)
  | (with_reducible refine i_make ?_)
  | (with_reducible refine i_spl ?_)
  | (with_reducible refine i_mkE2 ?_)
  | (with_reducible refine i_ex2 ?_)
  | (with_reducible refine i_dget ?_)
  | (with_reducible refine i_tru ?_)
  | (with_reducible refine i_dput ?_)
  | (with_reducible refine i_dnotin ?_)
  | (with_reducible refine i_din ?_)
  | (with_reducible refine i_isi_int_int ?_) | (with_reducible refine i_isi_int_bool ?_) | (with_reducible refine i_isi_int_str ?_) | (with_reducible refine i_isi_int_tuple ?_) | (with_reducible refine i_isi_int_list ?_)
  | (with_reducible refine i_isi_bl_int ?_) | (with_reducible refine i_isi_bl_bool ?_) | (with_reducible refine i_isi_bl_str ?_) | (with_reducible refine i_isi_bl_tuple ?_) | (with_reducible refine i_isi_bl_list ?_)
  | (with_reducible refine i_isi_str_int ?_) | (with_reducible refine i_isi_str_bool ?_) | (with_reducible refine i_isi_str_str ?_) | (with_reducible refine i_isi_str_tuple ?_) | (with_reducible refine i_isi_str_list ?_)
  | (with_reducible refine i_isi_non_int ?_) | (with_reducible refine i_isi_non_bool ?_) | (with_reducible refine i_isi_non_str ?_) | (with_reducible refine i_isi_non_tuple ?_) | (with_reducible refine i_isi_non_list ?_))
local macro_rules | `(tactic| walk_at "go") => `(tactic| (repeat' (walk_at "s")))
local macro_rules | `(tactic| walk_at "n") => `(tactic| simp only [wipe, List.map_cons, List.map_nil, List.set_cons_zero, List.set_cons_succ])
theorem fmD_flat {f : Fm} {w : List Nat} {d : PyData} (h : fmD f w = some d) : d.depth = 0 := by
  cases f with
  | num =>
    have h' : (numW w).map PyData.int = some d := h
    cases e : numW w with
    | none => rw [e] at h'; cases h'
    | some v => rw [e] at h'; cases h'; rfl
  | lit =>
    have h' : (if ltL w then some (dS w) else none) = some d := h
    split at h'
    · cases h'; rfl
    · cases h'
  | sg =>
    have h' : (if sgL w then some (dS w) else none) = some d := h
    split at h'
    · cases h'; rfl
    · cases h'
theorem readFm_flat {ws : List (List Nat)} : ∀ (fs : List Fm) (k : Nat) (r : List PyData), readFm ws k fs = .inl r → PyData.depthAll r = 0
  | [], k, r, h => by
    have h' : (if k < ws.length then Sum.inr k else Sum.inl []) = (Sum.inl r : List PyData ⊕ Nat) := h
    split at h'
    · cases h'
    · cases h'; rfl
  | f :: fs, k, r, h => by
    have h' : (if k < ws.length then
          (match fmD f (ws.getD k []) with
          | some d => (match readFm ws (k + 1) fs with | .inl r => .inl (d :: r) | .inr e => .inr e)
          | none => .inr k) else .inr ws.length) = (Sum.inl r : List PyData ⊕ Nat) := h
    split at h'
    · split at h'
      · rename_i d hd
        split at h'
        · rename_i r2 hr
          cases h'
          show max d.depth (PyData.depthAll r2) = 0
          rw [fmD_flat hd, readFm_flat fs (k + 1) r2 hr]
          rfl
        · cases h'
      · cases h'
    · cases h'
theorem readLn_flat {d : PyData} {es : List PyData} (h : readLn d = .inl es) : (PyData.tuple es).depth = 1 := by
  cases d with
  | str z =>
    have h' : (match forms ((wordsOf z).getD 0 []) with
      | none => .inr 0
      | some fs => (match readFm (wordsOf z) 1 fs with | .inl r => .inl (dS ((wordsOf z).getD 0 []) :: r) | .inr e => .inr e)) = (Sum.inl es : List PyData ⊕ Nat) := h
    split at h'
    · cases h'
    · rename_i fs hf
      split at h'
      · rename_i r hr
        cases h'
        show max 0 (PyData.depthAll r) + 1 = 1
        rw [readFm_flat fs 1 r hr]
        rfl
      · cases h'
  | _ => cases h
theorem readFm_len {ws : List (List Nat)} : ∀ (fs : List Fm) (k : Nat) (r : List PyData), readFm ws k fs = .inl r → r.length = fs.length
  | [], k, r, h => by
    have h' : (if k < ws.length then Sum.inr k else Sum.inl []) = (Sum.inl r : List PyData ⊕ Nat) := h
    split at h'
    · cases h'
    · cases h'; rfl
  | f :: fs, k, r, h => by
    have h' : (if k < ws.length then
          (match fmD f (ws.getD k []) with
          | some d => (match readFm ws (k + 1) fs with | .inl r => .inl (d :: r) | .inr e => .inr e)
          | none => .inr k) else .inr ws.length) = (Sum.inl r : List PyData ⊕ Nat) := h
    split at h'
    · split at h'
      · rename_i d hd
        split at h'
        · rename_i r2 hr
          cases h'
          rw [List.length_cons, List.length_cons, readFm_len fs (k + 1) r2 hr]
        · cases h'
      · cases h'
    · cases h'
theorem forms_len {w : List Nat} {fs : List Fm} (h : forms w = some fs) : fs.length ≤ 2 := by
  unfold forms at h
  split at h
  · cases h; decide
  · split at h
    · cases h; decide
    · split at h
      · cases h; decide
      · split at h
        · cases h; decide
        · cases h
theorem readLn_len {d : PyData} {es : List PyData} (h : readLn d = .inl es) : es.length ≤ 3 := by
  cases d with
  | str z =>
    have h' : (match forms ((wordsOf z).getD 0 []) with
      | none => .inr 0
      | some fs => (match readFm (wordsOf z) 1 fs with | .inl r => .inl (dS ((wordsOf z).getD 0 []) :: r) | .inr e => .inr e)) = (Sum.inl es : List PyData ⊕ Nat) := h
    split at h'
    · cases h'
    · rename_i fs hf
      split at h'
      · rename_i r hr
        cases h'
        have := readFm_len fs 1 r hr
        have := forms_len hf
        rw [List.length_cons]
        omega
      · cases h'
  | _ => cases h
def readAll : List PyData → Nat → List PyData ⊕ (Nat × Nat)
  | [], _ => .inl []
  | d :: r, n => match readLn d with
    | .inr e => .inr (n, e)
    | .inl es => match readAll r (n + 1) with
      | .inl ws => .inl (.tuple es :: ws)
      | .inr p => .inr p
def comb (ws : List PyData) : List PyData ⊕ (Nat × Nat) → List PyData ⊕ (Nat × Nat)
  | .inl r => .inl (ws ++ r)
  | .inr p => .inr p
theorem readAll_turn {ds ws es : List PyData} {n : Nat} {d : PyData} (h : readAll ds 0 = comb ws (readAll (ds.drop n) n)) (hd : ds[n]? = some d) (e : readLn d = .inl es) : readAll ds 0 = comb (ws ++ [.tuple es]) (readAll (ds.drop (n + 1)) (n + 1)) := by
  obtain ⟨hn, e1⟩ := List.getElem?_eq_some_iff.mp hd
  rw [h, List.drop_eq_getElem_cons hn, e1]
  show comb ws (match readLn d with | .inr e => .inr (n, e) | .inl es => match readAll (ds.drop (n + 1)) (n + 1) with | .inl ws => .inl (.tuple es :: ws) | .inr p => .inr p) = _
  rw [e]
  show comb ws (match readAll (ds.drop (n + 1)) (n + 1) with | .inl ws => .inl (.tuple es :: ws) | .inr p => .inr p) = _
  cases readAll (ds.drop (n + 1)) (n + 1) with
  | inl r => show Sum.inl _ = Sum.inl _; rw [List.append_assoc]; rfl
  | inr p => rfl
theorem readAll_bad {ds ws : List PyData} {n e : Nat} {d : PyData} (h : readAll ds 0 = comb ws (readAll (ds.drop n) n)) (hd : ds[n]? = some d) (e1 : readLn d = .inr e) : readAll ds 0 = .inr (n, e) := by
  obtain ⟨hn, e2⟩ := List.getElem?_eq_some_iff.mp hd
  rw [h, List.drop_eq_getElem_cons hn, e2]
  show comb ws (match readLn d with | .inr e => .inr (n, e) | .inl es => match readAll (ds.drop (n + 1)) (n + 1) with | .inl ws => .inl (.tuple es :: ws) | .inr p => .inr p) = _
  rw [e1]
  rfl
theorem depthAll_le {k : Nat} : ∀ {ws : List PyData}, (∀ w ∈ ws, w.depth ≤ k) → PyData.depthAll ws ≤ k
  | [], _ => Nat.zero_le _
  | w :: r, h => Nat.max_le.mpr ⟨h w (List.mem_cons_self ..), depthAll_le fun x hx => h x (List.mem_cons_of_mem _ hx)⟩
section
variable {P : Program} {w : World} {K : PySem.W.Frag} {mg : Str → Option Value} {base : Heap} {C_GlimError C_BadLine C_BadWeather C_Lines : Addr}
def p_read_weathers (CB CW : Addr) : P1 := fun x H Q E => ∃ A d, Same A H ∧ At A x d ∧
  (match seqOf d with
    | none => Bl E H CB 0 0
    | some ds => match readAll ds 0 with
      | .inr (n, e) => Bl E H CB n e
      | .inl ws => match badW (.tuple ws) with
        | some k => Rz E H CW "number" (.int k)
        | none => ∀ A' H' v, Ext A H A' H' → At A' v (.tuple ws) → Q v H')
theorem ok_read_weathers (T : Txt K mg C_GlimError C_BadLine C_BadWeather C_Lines) : OK P w K mg base (L2.CX P w) 9 "read_weathers" ["lines"] (sp1  (p_read_weathers C_BadLine C_BadWeather)) := by
  refine OK.mkX (k := 8) T.d_read_weathers sc_read_weathers len1 fun f cdv A outer s H vs Q E hr h => ?_
  obtain ⟨x, rfl, h⟩ := h
  refine ⟨_, (pss_cons (ps_set (i := 1) sc_read_weathers.nd rfl (Or.inl rfl) (pe_mkd (ok_Lines___init__ (K := K) T) (hr.mono (by decide)) (passes_call (takes_of rfl rfl rfl rfl) (fun _ _ _ _ h => h)) (pa_cons (pv 0) pa_nil))) (pss_cons (ps_set (i := 2) sc_read_weathers.nd rfl (Or.inl rfl) (pe_lst pa_nil)) (pss_cons (ps_while (passes_of rfl) (pt_not (pt_val (pe_m0 (pv 1) T.cl_Lines (ok_Lines_is_over (K := K) T) (hr.mono (by decide)) pass0))) (pss_one (ps_expr (peApp K (pv 2) (pa_cons (pe_f (ok_weather_at (K := K) T) (hr.mono (by decide)) (passes_call (takes_of rfl rfl rfl rfl) (fun _ _ _ _ h => h)) (pa_cons (pv 1) pa_nil)) pa_nil))))) (pss_cons (ps_set (i := 3) sc_read_weathers.nd rfl (Or.inl rfl) (pe_callTy (cTup K) (by rfl) T.b_tuple (by decide +kernel) (pa_cons (pv 2) pa_nil))) (pss_cons (ps_expr (pe_f (ok_check_weathers (K := K) T) (hr.mono (by decide)) (passes_call (takes_of rfl rfl rfl rfl) (fun _ _ _ _ h => h)) (pa_cons (pv 3) pa_nil))) (pss_one (ps_ret (pv 3)))))))), ?_⟩
  show (_ : TS) { nx := fun _ H' => Q .non H', rt := Q } [some x, none, none, none] H
  obtain ⟨A0, d, sa, hx, q⟩ := h
  walk_at "go"
  intro p dx np ndx nex
  have sp : Same H (upd (upd H dx (.own p)) p (.ins C_Lines dx [])) := (same_upd ndx).trans (same_upd (by rw [upd_ne nex.symm]; exact np))
  have np0 : H p = none := np
  have a0p : A0 p = none := sa.free np
  walk_at "go"
  refine ⟨A0, p, dx, d, rfl, rfl, sa.trans sp, a0p, upd_same, hx, ?_⟩
  cases e0 : seqOf d with
  | none =>
    rw [e0] at q
    exact Bl.mono q sp
  | some ds =>
  rw [e0] at q
  change (match readAll ds 0 with
      | .inr (n, e) => Bl E H C_BadLine n e
      | .inl ws => match badW (.tuple ws) with
        | some k => Rz E H C_BadWeather "number" (.int k)
        | none => ∀ A' H' v, Ext A0 H A' H' → At A' v (.tuple ws) → Q v H') at q
  intro A1 H1 t sA1 sH1 but1 nw1 ob1 tx1
  refine ⟨rfl, ?_⟩
  have a1p : A1 p = none := by
    by_cases h : A1 p = none
    · exact h
    · have := nw1 p a0p h
      rw [upd_same] at this
      cases this
  have x1 : Ext A0 H A1 H1 := by
    refine ⟨sA1, sH1, fun b o e => ?_, fun b h1 h2 => ?_⟩
    · exact but1 b o (ne_of_none e np) (sp b o e)
    · have h3 := nw1 b h1 h2
      have hbp : b ≠ p := fun z => by rw [z, upd_same] at h3; cases h3
      rw [upd_ne hbp] at h3
      have hbd : b ≠ dx := fun z => by rw [z, upd_same] at h3; cases h3
      rw [upd_ne hbd] at h3
      exact h3
  have dl : ds.length ≤ 10000 := by
    obtain ⟨_, _, _, _, l, al⟩ := tx1.tupled
    rw [← al.len]; exact l
  walk_at "go"
  refine i_new (by show 0 ≤ 100000; omega) fun wl nwl => ?_
  have hwl : H wl = none := x1.gg.free nwl
  have a1wl : A1 wl = none := x1.ag.free nwl
  have pwl : p ≠ wl := fun z => by rw [← z, ob1] at nwl; cases nwl
  refine i_while (fun m σ H' => ∃ n xs ws A', m = ds.length - n ∧ n ≤ ds.length ∧ σ = [some x, some (.ref p), some (.ref wl), none] ∧ Ext A0 H A' H' ∧ Same A1 A' ∧ A' p = none ∧ A' wl = none ∧
    H' p = some (.ins C_Lines dx (LF t n)) ∧ H' wl = some (.lst xs) ∧ AtAll A' xs ws ∧ ws.length = n ∧ (∀ w ∈ ws, w.depth ≤ 1) ∧ readAll ds 0 = comb ws (readAll (ds.drop n) n)) ds.length ⟨0, [], [], A1, rfl, Nat.zero_le _, rfl, x1.hid nwl, Same.refl _, a1p, a1wl, by rw [upd_ne pwl]; exact ob1, upd_same, .nil, rfl, fun w h => absurd h (by simp), ?_⟩ ?_
  · show readAll ds 0 = comb [] (readAll ds 0)
    cases readAll ds 0 <;> rfl
  rintro m σ H2 ⟨n, xs, ws, A2, rfl, hn, rfl, x2, sA2, a2p, a2wl, ob2, hwl2, al2, wl2, dep2, ra⟩
  have tx2 := tx1.same sA2
  have R2 : Rdr C_Lines A2 H2 p t n ds := ⟨x2.ag, tx2, dx, ob2⟩
  walk_at "go"
  refine i_self ob2 (LF_no t n (by decide +kernel) (by decide +kernel)) ?_
  walk_at "go"
  refine ⟨A2, p, t, n, ds, rfl, R2, ?_⟩
  walk_at "go"
  refine i_decN (fun e1 => ?_) (fun e1 => ?_)
  · have hlt : n < ds.length := by omega
    have hd : ds[n]? = some ds[n] := List.getElem?_eq_getElem hlt
    generalize ds[n] = c at hd
    refine i_turn ?_
    walk_at "go"
    refine i_appAt hwl2 ?_
    walk_at "go"
    refine ⟨A2, p, t, n, ds, dx, c, rfl, x2.ag, a2p, tx2, ob2, hd, ?_⟩
    cases er : readLn c with
    | inr e =>
      rw [readAll_bad ra hd er] at q
      exact Bl.mono q x2.gg
    | inl es =>
      intro H3 H4 a ys s3 b4 ob4 na nap ha al4
      have hwa : wl ≠ a := fun z => by rw [z, na] at hwl2; cases hwl2
      have wl4 : H4 wl = some (.lst xs) := b4 _ _ pwl.symm (s3 _ _ hwl2)
      have a2a : A2 a = none := x2.ag.free na
      have dep := readLn_flat er
      have ylen : ys.length ≤ 10000 := by
        rw [al4.len]
        exact Nat.le_trans (readLn_len er) (by decide)
      walk_at "go"
      refine i_appEnd wl4 (by rw [al2.len]; omega) ?_
      refine ⟨ds.length - (n + 1), by omega, n + 1, xs ++ [.ref a], ws ++ [.tuple es], upd A2 a (.tup ys), rfl, by omega, rfl, ?_, sA2.trans (same_upd a2a), ?_, ?_, ?_, upd_same, ?_, ?_, ?_, readAll_turn ra hd er⟩
      · refine ⟨x2.aa.trans (same_upd a2a), fun b o eb => ?_, fun b o eb => ?_, fun b h1 h2 => ?_⟩
        · by_cases hb : b = a
          · rw [hb, upd_same] at eb
            rw [hb, upd_ne hwa.symm, ha]; exact eb
          · rw [upd_ne hb] at eb
            have n1 : b ≠ wl := ne_of_none eb a2wl
            have n2 : b ≠ p := ne_of_none eb a2p
            rw [upd_ne n1]
            exact b4 _ _ n2 (s3 _ _ (x2.ag _ _ eb))
        · have n1 : b ≠ wl := ne_of_none eb hwl
          have n2 : b ≠ p := ne_of_none eb np0
          rw [upd_ne n1]
          exact b4 _ _ n2 (s3 _ _ (x2.gg _ _ eb))
        · by_cases hb : b = a
          · rw [hb]; exact x2.gg.free na
          · rw [upd_ne hb] at h2
            exact x2.nw b h1 h2
      · rw [upd_ne nap.symm]; exact a2p
      · rw [upd_ne hwa]; exact a2wl
      · rw [upd_ne pwl]; exact ob4
      · exact (al2.same (same_upd a2a)).app (.one (.tup upd_same ylen (al4.same (same_upd a2a))))
      · rw [List.length_append, wl2]; rfl
      · intro w hw
        rcases List.mem_append.mp hw with h | h
        · exact dep2 w h
        · rw [List.mem_singleton.mp h, dep]; exact Nat.le_refl _
  · have en : n = ds.length := by omega
    have e2 : readAll ds 0 = .inl ws := by
      rw [ra, en, List.drop_length]
      show Sum.inl (ws ++ []) = _
      rw [List.append_nil]
    rw [e2] at q
    walk_at "go"
    refine i_tuple_lst (.inl (.inl hwl2)) fun tl ntl => ?_
    have a2tl : A2 tl = none := x2.ag.free ntl
    have x3 := x2.new (o := .tup xs) ntl
    have at3 : At (upd A2 tl (.tup xs)) (.ref tl) (.tuple ws) := At.mkTup upd_same (al2.same (same_upd a2tl)) (by omega)
    walk_at "go"
    refine ⟨_, _, x3.ag, at3, ?_, ?_⟩
    · have := depthAll_le dep2
      show PyData.depthAll ws + 1 < 6
      omega
    cases eb : badW (.tuple ws) with
    | some k =>
      simp only [eb] at q
      exact q.mono x3.gg
    | none =>
      simp only [eb] at q
      intro H5 s5
      walk_at "go"
      exact q _ H5 _ ⟨x3.aa, x3.ag.trans s5, x3.gg.trans s5, x3.nw⟩ at3
end
end K12
namespace K12
open PySem PySem.Spec PyProof.Rows L2 Fg
local macro_rules | `(tactic| walk_at "sq") => `(tactic| first
  | assumption
  | exact .inl (.inl (by assumption))
  | exact .inl (.inl upd_same))
local macro_rules | `(tactic| walk_at "st") => `(tactic| first
  | assumption
  | exact .inl (.inl (by assumption))
  | exact .inl (.inl upd_same))
local macro_rules | `(tactic| walk_at "o") => `(tactic| first
  | omega
  | assumption
  | (simp only [List.length_append, List.length_take, List.length_drop, List.length_cons, List.length_nil, List.length_singleton, List.length_map, List.length_range, Int.toNat_natCast] ; omega))
local macro_rules | `(tactic| walk_at "s") => `(tactic| first
  | (with_reducible refine i_seq ?_)
  | (with_reducible refine i_asg ?_)
  | ((with_reducible refine' i_var ?h1 ?_); (case h1 => rfl))
  | (with_reducible refine i_c ?_)
  | ((with_reducible refine' i_gname' ?h1 ?_); (case h1 => (simp only [List.set_cons_zero, List.set_cons_succ]; rfl)))
  | (with_reducible refine i_op ?_)
  | (with_reducible refine i_ifS ?_)
  | (with_reducible refine i_for ?_)
  | (with_reducible refine i_test ?_)
  | (with_reducible refine i_B ?_)
  | (with_reducible refine i_exbl ?_)
  | (with_reducible refine i_exint ?_)
  | (with_reducible refine i_cb ?_)
  | (with_reducible refine i_nil ?_)
  | (with_reducible refine i_cons ?_)
  | (with_reducible refine i_ret ?_)
  | (with_reducible refine i_sl ?_)
  | (with_reducible refine i_nopart ?_)
  | (with_reducible refine i_part ?_)
  | (with_reducible refine i_add_int ?_)
  | (with_reducible refine i_sub ?_)
  | (with_reducible refine i_lt ?_)
  | ((with_reducible refine' i_mod ?h1 ?_); (case h1 => walk_at "o"))
  | ((with_reducible refine' i_fdiv ?h1 ?_); (case h1 => (refine cdiv_small ?_ ?_ <;> walk_at "o")))
  | ((with_reducible refine' i_sl_to ?h1 ?h2 ?_); (case h1 => walk_at "o"); (case h2 => walk_at "o"))
  | ((with_reducible refine' i_sl_from ?h1 ?h2 ?_); (case h1 => walk_at "o"); (case h2 => walk_at "o"))
  | ((with_reducible refine' i_add_str ?h1 ?_); (case h1 => walk_at "o"))
  | ((with_reducible refine' i_mul_int ?h1 ?_); (case h1 => first | (refine mul_small ?_ ?_ <;> walk_at "o") | (refine mul_smallR ?_ ?_ <;> walk_at "o")))
  | (with_reducible refine i_le ?_)
  | (with_reducible refine i_gt ?_)
  | (with_reducible refine i_ge ?_)
  | (with_reducible refine i_eq_int ?_)
  | (with_reducible refine i_eq_str ?_)
  | (with_reducible refine i_ne_int ?_)
  | (with_reducible refine i_ne_str ?_)
  | (with_reducible refine i_eq_bl ?_)
  | (with_reducible refine i_ne_bl ?_)
  | (with_reducible refine i_in_sg ?_)
  | (with_reducible refine i_notIn_sg ?_)
  | (with_reducible refine i_call ?_)
  | (with_reducible refine i_callS ?_)
  | (with_reducible refine i_sp1 ?_)
  | (with_reducible refine i_sp2 ?_)
  | (with_reducible refine i_sp3 ?_)
  | (with_reducible refine i_sp4 ?_)
  | (with_reducible refine i_sp1' ?_)
  | (with_reducible refine i_sp2' ?_)
  | (with_reducible refine i_sp3' ?_)
  | ((with_reducible refine' i_ix_lst ?h1 ?h2 ?_); (case h1 => walk_at "sq"); (case h2 => first | exact atI_nat rfl | rfl))
  | ((with_reducible refine' i_ix_tup ?h1 ?h2 ?_); (case h1 => walk_at "st"); (case h2 => first | exact atI_nat rfl | rfl))
  | (with_reducible refine i_gsub ?_)
  | (with_reducible refine i_par ?_)
  | (with_reducible refine i_lstRg1 ?_)
  | (with_reducible refine i_app ?_)
  | (with_reducible refine i_par2 ?_)
  | ((with_reducible refine' i_aug ?h1 ?_); (case h1 => rfl))
  | (with_reducible refine i_ipI ?_)
  | ((with_reducible refine' i_gtup2 ?h1 ?_); (case h1 => walk_at "st"))
  | (with_reducible refine i_int_bl ?_)
  | (with_reducible refine i_raise ?_)
  | (with_reducible refine i_mkE ?_)
  | (with_reducible refine i_ex1 ?_)
  | (with_reducible refine i_and ?_)
  | (with_reducible refine i_or ?_)
  | (with_reducible refine i_not ?_)
  | (with_reducible refine i_tt ?_)
  | (with_reducible refine i_ff ?_)
  | (with_reducible refine i_nott ?_)
  | (with_reducible refine i_notf ?_)
  | (with_reducible refine i_andV ?_)
  | (with_reducible refine i_orV ?_)
  | (with_reducible refine i_notV ?_)
  | (with_reducible refine i_ifE ?_)
  | (with_reducible refine i_tup ?_)
  | (with_reducible refine i_lst ?_)
  | (with_reducible refine i_un ?_)
  | (with_reducible refine i_neg ?_)
  | (with_reducible refine i_chain ?_)
  | (with_reducible refine i_next ?_)
  | (with_reducible refine i_retN ?_)
  | (with_reducible refine i_drop ?_)
  | (with_reducible refine i_int_int ?_)
  | (with_reducible refine i_abs ?_)
  | (with_reducible refine i_m1c ?_)
  | (with_reducible refine i_is_non ?_)
  | (with_reducible refine i_is_int ?_)
  | (with_reducible refine i_is_bl ?_)
  | (with_reducible refine i_isn_bl ?_)
  | (with_reducible refine i_is_str ?_)
  | (with_reducible refine i_is_ref ?_)
  | (with_reducible refine i_isn_non ?_)
  | (with_reducible refine i_isn_int ?_)
  | (with_reducible refine i_isn_str ?_)
  | (with_reducible refine i_isn_ref ?_)
  | (with_reducible refine i_len_str ?h1 ?_; (case h1 => walk_at "o"))
  | (with_reducible refine i_callD ?_)
  | (with_reducible refine i_spD2 ?_)
  | (with_reducible refine i_spM1 ?_)
  | (with_reducible refine i_spM2 ?_)
  | (with_reducible refine i_spM3 ?_)
  | (with_reducible refine i_spM4 ?_)
  | (with_reducible refine i_spM3d ?_)
  | (with_reducible refine i_tfld ?_)
  | (with_reducible refine i_sfld ?_)
  | (with_reducible refine i_meth ?_)
  | (with_reducible refine i_make ?_)
  | (with_reducible refine i_spl ?_)
  | (with_reducible refine i_mkE2 ?_)
  | (with_reducible refine i_ex2 ?_)
  | (with_reducible refine i_dget ?_)
  | (with_reducible refine i_tru ?_)
  | (with_reducible refine i_dput ?_)
  | (with_reducible refine i_dnotin ?_)
  | (with_reducible refine i_din ?_)
  | (with_reducible refine i_isi_int_int ?_) | (with_reducible refine i_isi_int_bool ?_) | (with_reducible refine i_isi_int_str ?_) | (with_reducible refine i_isi_int_tuple ?_) | (with_reducible refine i_isi_int_list ?_)
  | (with_reducible refine i_isi_bl_int ?_) | (with_reducible refine i_isi_bl_bool ?_) | (with_reducible refine i_isi_bl_str ?_) | (with_reducible refine i_isi_bl_tuple ?_) | (with_reducible refine i_isi_bl_list ?_)
  | (with_reducible refine i_isi_str_int ?_) | (with_reducible refine i_isi_str_bool ?_) | (with_reducible refine i_isi_str_str ?_) | (with_reducible refine i_isi_str_tuple ?_) | (with_reducible refine i_isi_str_list ?_)
  | (with_reducible refine i_isi_non_int ?_) | (with_reducible refine i_isi_non_bool ?_) | (with_reducible refine i_isi_non_str ?_) | (with_reducible refine i_isi_non_tuple ?_) | (with_reducible refine i_isi_non_list ?_))
local macro_rules | `(tactic| walk_at "go") => `(tactic| (repeat' (walk_at "s")))
local macro_rules | `(tactic| walk_at "n") => `(tactic| simp only [wipe, List.map_cons, List.map_nil, List.set_cons_zero, List.set_cons_succ])
def isI : PyData → Bool
  | .int _ => true
  | _ => false
theorem nodict_mem : ∀ {ds : List PyData} {d : PyData}, PyData.hasDictAll ds = false → d ∈ ds → d.hasDict = false
  | e :: r, d, h, hm => by
    have h' : (e.hasDict || PyData.hasDictAll r) = false := h
    rw [Bool.or_eq_false_iff] at h'
    rcases List.mem_cons.mp hm with rfl | hm
    · exact h'.1
    · exact nodict_mem h'.2 hm
section
variable {P : Program} {w : World} {K : PySem.W.Frag} {mg : Str → Option Value} {base : Heap} {C_GlimError C_BadLine C_BadWeather C_Lines : Addr}
def p_L_is_int : P1 := fun x H Q _ => ∃ d, At H x d ∧ Q (.bl (isI d)) H
theorem ok_L_is_int (T : Txt K mg C_GlimError C_BadLine C_BadWeather C_Lines) : OK P w K mg base CX0 1 "_law_is_int" ["_law_thing"] (sp1  p_L_is_int) := by
  refine OK.mk (k := 0) T.d_L_is_int sc_L_is_int len1 fun f cdv A outer s H vs Q E hr h => ?_
  obtain ⟨x, rfl, h⟩ := h
  refine ⟨_, (pss_one (ps_ret (pe_and (pe_callB (cIsi K) (by rfl) T.b_isinstance (by decide +kernel) (pa_cons (pv 0) (pa_cons (pe_bltn (v := .ty "int") (by rfl) T.b_int (by decide +kernel) rfl) pa_nil))) (pe_one (pe_not (pe_callB (cIsi K) (by rfl) T.b_isinstance (by decide +kernel) (pa_cons (pv 0) (pa_cons (pe_bltn (v := .ty "bool") (by rfl) T.b_bool (by decide +kernel) rfl) pa_nil)))))))), ?_⟩
  show (_ : TS) { nx := fun _ H' => Q .non H', rt := Q } [some x] H
  obtain ⟨d, hx, q⟩ := h
  walk_at "go"
  cases d
  case int i =>
    refine i_isiInt true hx rfl ?_
    walk_at "go"
    refine i_isiBool false hx rfl ?_
    walk_at "go"
    exact q
  case bool b =>
    refine i_isiInt true hx rfl ?_
    walk_at "go"
    refine i_isiBool true hx rfl ?_
    walk_at "go"
    exact q
  all_goals
    refine i_isiInt false hx rfl ?_
    walk_at "go"
    exact q
def p_exN (n : Nat) : P2 := fun x y H Q _ => ∃ e, At H x (deepD e) ∧ At H y e ∧ e.depth < n ∧ e.hasDict = false ∧ ∀ H', Same H H' → Q (.bl true) H'
theorem exact_n (T : Txt K mg C_GlimError C_BadLine C_BadWeather C_Lines) (n : Nat) (R : OK P w K mg base CX0 (n + 1) "_law_exact" ["_law_told", "_law_due_here"] (sp2 (p_exN n))) : OK P w K mg base CX0 (n + 1 + 1) "_law_exact" ["_law_told", "_law_due_here"] (sp2 (p_exN (n + 1))) := by
  refine OK.mk (k := n + 1) T.d_L_exact sc_L_exact len2 fun f cdv A outer s H vs Q E hr h => ?_
  obtain ⟨x, y, rfl, h⟩ := h
  refine ⟨_, (pss_cons (ps_if (pt_cmpR op_isP (pv 1) pe_non (nomark _)) (pss_one (ps_ret (pe_cmpR op_isP (pv 0) pe_non (nomark _)))) pss_nil) (pss_cons (ps_if (pt_val (pe_callB (cIsi K) (by rfl) T.b_isinstance (by decide +kernel) (pa_cons (pv 1) (pa_cons (pe_bltn (v := .ty "bool") (by rfl) T.b_bool (by decide +kernel) rfl) pa_nil)))) (pss_one (ps_ret (pe_and (pe_callB (cIsi K) (by rfl) T.b_isinstance (by decide +kernel) (pa_cons (pv 0) (pa_cons (pe_bltn (v := .ty "bool") (by rfl) T.b_bool (by decide +kernel) rfl) pa_nil))) (pe_one (pe_cmpR (opEq K hr.units) (pv 0) (pv 1) (nomark _)))))) pss_nil) (pss_cons (ps_if (pt_val (pe_callB (cIsi K) (by rfl) T.b_isinstance (by decide +kernel) (pa_cons (pv 1) (pa_cons (pe_bltn (v := .ty "int") (by rfl) T.b_int (by decide +kernel) rfl) pa_nil)))) (pss_one (ps_ret (pe_and (pe_f (ok_L_is_int (K := K) T) (hr.mono (by omega)) pass0 (pa_cons (pv 0) pa_nil)) (pe_one (pe_cmpR (opEq K hr.units) (pv 0) (pv 1) (nomark _)))))) pss_nil) (pss_cons (ps_if (pt_val (pe_callB (cIsi K) (by rfl) T.b_isinstance (by decide +kernel) (pa_cons (pv 1) (pa_cons (pe_bltn (v := .ty "str") (by rfl) T.b_str (by decide +kernel) rfl) pa_nil)))) (pss_one (ps_ret (pe_and (pe_callB (cIsi K) (by rfl) T.b_isinstance (by decide +kernel) (pa_cons (pv 0) (pa_cons (pe_bltn (v := .ty "str") (by rfl) T.b_str (by decide +kernel) rfl) pa_nil))) (pe_one (pe_cmpR (opEq K hr.units) (pv 0) (pv 1) (nomark _)))))) pss_nil) (pss_cons (ps_if (pw_or (pt_not (pt_val (pe_callB (cIsi K) (by rfl) T.b_isinstance (by decide +kernel) (pa_cons (pv 0) (pa_cons (pe_bltn (v := .ty "tuple") (by rfl) T.b_tuple (by decide +kernel) rfl) pa_nil))))) (pw_or1 (pt_cmpR (opNe K hr.units) (pe_callB (cLen K) (by rfl) T.b_len (by decide +kernel) (pa_cons (pv 0) pa_nil)) (pe_callB (cLen K) (by rfl) T.b_len (by decide +kernel) (pa_cons (pv 1) pa_nil)) (nomark _)))).pt (pss_one (ps_ret pe_bl)) pss_nil) (pss_cons (ps_for PassesOwn.never rfl (pi_range1 rfl T.b_range (pa_cons (pe_callB (cLen K) (by rfl) T.b_len (by decide +kernel) (pa_cons (pv 1) pa_nil)) pa_nil)) (pg_name (i := 2) sc_L_exact.nd rfl (Or.inl rfl)) (pss_one (ps_if (pt_not (pt_val (pe_f R (hr.mono (by omega)) pass0 (pa_cons (pe_ix (ixK K) (pv 0) (pv 2) (fun _ _ => rfl)) (pa_cons (pe_ix (ixK K) (pv 1) (pv 2) (fun _ _ => rfl)) pa_nil))))) (pss_one (ps_ret pe_bl)) pss_nil))) (pss_one (ps_ret pe_bl)))))))), ?_⟩
  show (_ : TS) { nx := fun _ H' => Q .non H', rt := Q } [some x, some y, none] H
  obtain ⟨e, hx, hy, hd, hn, q⟩ := h
  have q0 := q H (Same.refl H)
  cases e
  case none =>
    cases hy
    cases (show At H x .none from hx)
    walk_at "go"
    exact q0
  case bool b =>
    cases hy
    cases (show At H x (.bool b) from hx)
    walk_at "go"
    cases b <;> exact q0
  case int i =>
    cases hy
    have hx' : At H x (.int i) := hx
    cases hx'
    walk_at "go"
    refine ⟨.int i, .int i, ?_⟩
    rw [show isI (.int i) = true from rfl]
    walk_at "go"
    rw [decide_eq_true rfl]
    exact q0
  case str s =>
    obtain ⟨l, rfl, rfl, hl⟩ := hy.strl
    have hx' : At H x (dS l) := hx
    have ex := hx'.strd
    subst ex
    walk_at "go"
    refine i_isiStr true (At.str l hl) rfl ?_
    walk_at "go"
    refine i_eq_str (l := l) (m := l) ?_
    rw [decide_eq_true rfl]
    exact q0
  case dict kvs => cases hn
  case list es =>
    obtain ⟨b, ys, rfl, hB, hl, al⟩ := hy.listed
    have hx' : At H x (.tuple (es.map deepD)) := by rw [← deepDs_map]; exact hx
    obtain ⟨a, xs, rfl, hA, hl2, al2⟩ := hx'.tupled
    have e1 := al.len
    have e2 := al2.len
    rw [List.length_map] at e2
    have hn' : PyData.hasDictAll es = false := hn
    have hd' : PyData.depthAll es + 1 < n + 1 := hd
    walk_at "go"
    refine i_isiBool false hy rfl ?_
    walk_at "go"
    refine i_isiInt false hy rfl ?_
    walk_at "go"
    refine i_isiStr false hy rfl ?_
    walk_at "go"
    refine i_isiTup true hx' rfl ?_
    walk_at "go"
    refine i_len_tup (.inl (.inl hA)) ?_
    walk_at "go"
    refine i_len_lst (.inl (.inl hB)) ?_
    walk_at "go"
    rw [decide_eq_true (show (xs.length : Int) = (ys.length : Int) by omega)]
    walk_at "go"
    refine f_rng1 ys.length (fun R k => by walk_at "go"; exact i_len_lst (.inl (.inl hB)) k) (by omega) (fun i σ H' => ∃ v, σ = [some (.ref a), some (.ref b), v] ∧ Same H H') ⟨none, rfl, Same.refl H⟩ ?_ ?_
    · rintro i σ H' hi ⟨v, rfl, s1⟩
      show (_ : TS) _ [some (.ref a), some (.ref b), some (.int (i : Int))] H'
      have he : es[i]? = some es[i] := List.getElem?_eq_getElem (by omega)
      obtain ⟨vy, hvy, ay⟩ := al.at he
      obtain ⟨vx, hvx, ax⟩ := al2.at (i := i) (d := deepD es[i]) (by rw [List.getElem?_map, he]; rfl)
      have hm := List.mem_of_getElem? he
      have dm := depth_mem hm
      walk_at "go"
      refine i_ix_tup (v := vx) (.inl (.inl (s1 _ _ hA))) (atI_nat hvx) ?_
      walk_at "go"
      refine i_ix_lst (v := vy) (.inl (.inl (s1 _ _ hB))) (atI_nat hvy) ?_
      walk_at "go"
      refine ⟨es[i], ax.same s1, ay.same s1, by omega, nodict_mem hn' hm, fun H2 s2 => ?_⟩
      walk_at "go"
      exact ⟨_, rfl, s1.trans s2⟩
    · rintro σ H' ⟨v, rfl, s1⟩
      walk_at "go"
      exact q _ s1
  case tuple es =>
    obtain ⟨b, ys, rfl, hB, hl, al⟩ := hy.tupled
    have hx' : At H x (.tuple (es.map deepD)) := by rw [← deepDs_map]; exact hx
    obtain ⟨a, xs, rfl, hA, hl2, al2⟩ := hx'.tupled
    have e1 := al.len
    have e2 := al2.len
    rw [List.length_map] at e2
    have hn' : PyData.hasDictAll es = false := hn
    have hd' : PyData.depthAll es + 1 < n + 1 := hd
    walk_at "go"
    refine i_isiBool false hy rfl ?_
    walk_at "go"
    refine i_isiInt false hy rfl ?_
    walk_at "go"
    refine i_isiStr false hy rfl ?_
    walk_at "go"
    refine i_isiTup true hx' rfl ?_
    walk_at "go"
    refine i_len_tup (.inl (.inl hA)) ?_
    walk_at "go"
    refine i_len_tup (.inl (.inl hB)) ?_
    walk_at "go"
    rw [decide_eq_true (show (xs.length : Int) = (ys.length : Int) by omega)]
    walk_at "go"
    refine f_rng1 ys.length (fun R k => by walk_at "go"; exact i_len_tup (.inl (.inl hB)) k) (by omega) (fun i σ H' => ∃ v, σ = [some (.ref a), some (.ref b), v] ∧ Same H H') ⟨none, rfl, Same.refl H⟩ ?_ ?_
    · rintro i σ H' hi ⟨v, rfl, s1⟩
      show (_ : TS) _ [some (.ref a), some (.ref b), some (.int (i : Int))] H'
      have he : es[i]? = some es[i] := List.getElem?_eq_getElem (by omega)
      obtain ⟨vy, hvy, ay⟩ := al.at he
      obtain ⟨vx, hvx, ax⟩ := al2.at (i := i) (d := deepD es[i]) (by rw [List.getElem?_map, he]; rfl)
      have hm := List.mem_of_getElem? he
      have dm := depth_mem hm
      walk_at "go"
      refine i_ix_tup (v := vx) (.inl (.inl (s1 _ _ hA))) (atI_nat hvx) ?_
      walk_at "go"
      refine i_ix_tup (v := vy) (.inl (.inl (s1 _ _ hB))) (atI_nat hvy) ?_
      walk_at "go"
      refine ⟨es[i], ax.same s1, ay.same s1, by omega, nodict_mem hn' hm, fun H2 s2 => ?_⟩
      walk_at "go"
      exact ⟨_, rfl, s1.trans s2⟩
    · rintro σ H' ⟨v, rfl, s1⟩
      walk_at "go"
      exact q _ s1
theorem exact_all (T : Txt K mg C_GlimError C_BadLine C_BadWeather C_Lines) : ∀ n, OK P w K mg base CX0 (n + 1) "_law_exact" ["_law_told", "_law_due_here"] (sp2 (p_exN n))
  | 0 => OK.weak (OK.never0 T.d_L_exact) fun vs H Q E h => by
    obtain ⟨_, _, _, _, _, _, z, _⟩ := h
    omega
  | n + 1 => exact_n T n (exact_all T n)
theorem ok_L_exact (T : Txt K mg C_GlimError C_BadLine C_BadWeather C_Lines) : OK P w K mg base CX0 8 "_law_exact" ["_law_told", "_law_due_here"] (sp2  (p_exN 7)) := exact_all T 7
end
end K12
namespace K12
open PySem PySem.Spec PyProof.Rows L2 Fg
local macro_rules | `(tactic| walk_at "sq") => `(tactic| first
  | assumption
  | exact .inl (.inl (by assumption))
  | exact .inl (.inl upd_same))
local macro_rules | `(tactic| walk_at "st") => `(tactic| first
  | assumption
  | exact .inl (.inl (by assumption))
  | exact .inl (.inl upd_same))
local macro_rules | `(tactic| walk_at "o") => `(tactic| first
  | omega
  | assumption
  | (simp only [List.length_append, List.length_take, List.length_drop, List.length_cons, List.length_nil, List.length_singleton, List.length_map, List.length_range, Int.toNat_natCast] ; omega))
local macro_rules | `(tactic| walk_at "s") => `(tactic| first
  | (with_reducible refine i_seq ?_)
  | (with_reducible refine i_asg ?_)
  | ((with_reducible refine' i_var ?h1 ?_); (case h1 => rfl))
  | (with_reducible refine i_c ?_)
  | ((with_reducible refine' i_gname' ?h1 ?_); (case h1 => (simp only [List.set_cons_zero, List.set_cons_succ]; rfl)))
  | (with_reducible refine i_op ?_)
  | (with_reducible refine i_ifS ?_)
  | (with_reducible refine i_for ?_)
  | (with_reducible refine i_test ?_)
  | (with_reducible refine i_B ?_)
  | (with_reducible refine i_exbl ?_)
  | (with_reducible refine i_exint ?_)
  | (with_reducible refine i_cb ?_)
  | (with_reducible refine i_nil ?_)
  | (with_reducible refine i_cons ?_)
  | (with_reducible refine i_ret ?_)
  | (with_reducible refine i_sl ?_)
  | (with_reducible refine i_nopart ?_)
  | (with_reducible refine i_part ?_)
  | (with_reducible refine i_add_int ?_)
  | (with_reducible refine i_sub ?_)
  | (with_reducible refine i_lt ?_)
  | ((with_reducible refine' i_mod ?h1 ?_); (case h1 => walk_at "o"))
  | ((with_reducible refine' i_fdiv ?h1 ?_); (case h1 => (refine cdiv_small ?_ ?_ <;> walk_at "o")))
  | ((with_reducible refine' i_sl_to ?h1 ?h2 ?_); (case h1 => walk_at "o"); (case h2 => walk_at "o"))
  | ((with_reducible refine' i_sl_from ?h1 ?h2 ?_); (case h1 => walk_at "o"); (case h2 => walk_at "o"))
  | ((with_reducible refine' i_add_str ?h1 ?_); (case h1 => walk_at "o"))
  | ((with_reducible refine' i_mul_int ?h1 ?_); (case h1 => first | (refine mul_small ?_ ?_ <;> walk_at "o") | (refine mul_smallR ?_ ?_ <;> walk_at "o")))
  | (with_reducible refine i_le ?_)
  | (with_reducible refine i_gt ?_)
  | (with_reducible refine i_ge ?_)
  | (with_reducible refine i_eq_int ?_)
  | (with_reducible refine i_eq_str ?_)
  | (with_reducible refine i_ne_int ?_)
  | (with_reducible refine i_ne_str ?_)
  | (with_reducible refine i_eq_bl ?_)
  | (with_reducible refine i_ne_bl ?_)
  | (with_reducible refine i_in_sg ?_)
  | (with_reducible refine i_notIn_sg ?_)
  | (with_reducible refine i_call ?_)
  | (with_reducible refine i_callS ?_)
  | (with_reducible refine i_sp1 ?_)
  | (with_reducible refine i_sp2 ?_)
  | (with_reducible refine i_sp3 ?_)
  | (with_reducible refine i_sp4 ?_)
  | (with_reducible refine i_sp1' ?_)
  | (with_reducible refine i_sp2' ?_)
  | (with_reducible refine i_sp3' ?_)
  | ((with_reducible refine' i_ix_lst ?h1 ?h2 ?_); (case h1 => walk_at "sq"); (case h2 => first | exact atI_nat rfl | rfl))
  | ((with_reducible refine' i_ix_tup ?h1 ?h2 ?_); (case h1 => walk_at "st"); (case h2 => first | exact atI_nat rfl | rfl))
  | (with_reducible refine i_gsub ?_)
  | (with_reducible refine i_par ?_)
  | (with_reducible refine i_lstRg1 ?_)
  | (with_reducible refine i_app ?_)
  | (with_reducible refine i_par2 ?_)
  | ((with_reducible refine' i_aug ?h1 ?_); (case h1 => rfl))
  | (with_reducible refine i_ipI ?_)
  | ((with_reducible refine' i_gtup2 ?h1 ?_); (case h1 => walk_at "st"))
  | (with_reducible refine i_int_bl ?_)
  | (with_reducible refine i_raise ?_)
  | (with_reducible refine i_mkE ?_)
  | (with_reducible refine i_ex1 ?_)
  | (with_reducible refine i_and ?_)
  | (with_reducible refine i_or ?_)
  | (with_reducible refine i_not ?_)
  | (with_reducible refine i_tt ?_)
  | (with_reducible refine i_ff ?_)
  | (with_reducible refine i_nott ?_)
  | (with_reducible refine i_notf ?_)
  | (with_reducible refine i_andV ?_)
  | (with_reducible refine i_orV ?_)
  | (with_reducible refine i_notV ?_)
  | (with_reducible refine i_ifE ?_)
  | (with_reducible refine i_tup ?_)
  | (with_reducible refine i_lst ?_)
  | (with_reducible refine i_un ?_)
  | (with_reducible refine i_neg ?_)
  | (with_reducible refine i_chain ?_)
  | (with_reducible refine i_next ?_)
  | (with_reducible refine i_retN ?_)
  | (with_reducible refine i_drop ?_)
  | (with_reducible refine i_int_int ?_)
  | (with_reducible refine i_abs ?_)
  | (with_reducible refine i_m1c ?_)
  | (with_reducible refine i_is_non ?_)
  | (with_reducible refine i_is_int ?_)
  | (with_reducible refine i_is_bl ?_)
  | (with_reducible refine i_isn_bl ?_)
  | (with_reducible refine i_is_str ?_)
  | (with_reducible refine i_is_ref ?_)
  | (with_reducible refine i_isn_non ?_)
  | (with_reducible refine i_isn_int ?_)
  | (with_reducible refine i_isn_str ?_)
  | (with_reducible refine i_isn_ref ?_)
  | (with_reducible refine i_len_str ?h1 ?_; (case h1 => walk_at "o"))
  | (with_reducible refine i_callD ?_)
  | (with_reducible refine i_spD2 ?_)
  | (with_reducible refine i_spM1 ?_)
  | (with_reducible refine i_spM2 ?_)
  | (with_reducible refine i_spM3 ?_)
  | (with_reducible refine i_spM4 ?_)
  | (with_reducible refine i_spM3d ?_)
  | (with_reducible refine i_tfld ?_)
  | (with_reducible refine i_sfld ?_)
  | (with_reducible refine i_meth ?_)
  | (with_reducible refine i_make ?_)
  | (with_reducible refine i_spl ?_)
  | (with_reducible refine i_mkE2 ?_)
  | (with_reducible refine i_ex2 ?_)
  | (with_reducible refine i_dget ?_)
  | (with_reducible refine i_tru ?_)
  | (with_reducible refine i_dput ?_)
  | (with_reducible refine i_dnotin ?_)
  | (with_reducible refine i_din ?_)
  | (with_reducible refine i_isi_int_int ?_) | (with_reducible refine i_isi_int_bool ?_) | (with_reducible refine i_isi_int_str ?_) | (with_reducible refine i_isi_int_tuple ?_) | (with_reducible refine i_isi_int_list ?_)
  | (with_reducible refine i_isi_bl_int ?_) | (with_reducible refine i_isi_bl_bool ?_) | (with_reducible refine i_isi_bl_str ?_) | (with_reducible refine i_isi_bl_tuple ?_) | (with_reducible refine i_isi_bl_list ?_)
  | (with_reducible refine i_isi_str_int ?_) | (with_reducible refine i_isi_str_bool ?_) | (with_reducible refine i_isi_str_str ?_) | (with_reducible refine i_isi_str_tuple ?_) | (with_reducible refine i_isi_str_list ?_)
  | (with_reducible refine i_isi_non_int ?_) | (with_reducible refine i_isi_non_bool ?_) | (with_reducible refine i_isi_non_str ?_) | (with_reducible refine i_isi_non_tuple ?_) | (with_reducible refine i_isi_non_list ?_))
local macro_rules | `(tactic| walk_at "go") => `(tactic| (repeat' (walk_at "s")))
local macro_rules | `(tactic| walk_at "n") => `(tactic| simp only [wipe, List.map_cons, List.map_nil, List.set_cons_zero, List.set_cons_succ])
/-! ### x in [texts] -/
theorem eqV_S (m l : List Nat) : eqV (S m) (S l) = decide (m = l) := by
  show ((⟨m.toArray⟩ : Str) == ⟨l.toArray⟩) = _
  rw [Bool.eq_iff_iff]
  simp
theorem inV_S (l : List Nat) : ∀ ms : List (List Nat), inV (S l) (ms.map S) = decide (l ∈ ms)
  | [] => by simp [inV]
  | m :: r => by
    have ih := inV_S l r
    unfold inV at ih ⊢
    rw [List.map_cons, List.any_cons, ih, eqV_S, Bool.eq_iff_iff, Bool.or_eq_true, decide_eq_true_eq, decide_eq_true_eq, decide_eq_true_eq, List.mem_cons]
    exact ⟨fun h => h.imp_left Eq.symm, fun h => h.imp_left Eq.symm⟩
theorem flat_S : ∀ ms : List (List Nat), (ms.map S).all flatV = true
  | [] => rfl
  | m :: r => by rw [List.map_cons, List.all_cons, flat_S r]; rfl
section
variable {K : PySem.W.Frag} {H : Hp} {Q : VK} {p : Addr} {ms : List (List Nat)} {l : List Nat} {v : V}
theorem i_inS (h : H p = some (.lst (ms.map S))) (q : Q (.bl (decide (l ∈ ms))) H) : inP K (S l) (.ref p) H Q :=
  .inr ⟨p, _, rfl, .inl (.inl (.inl h)), rfl, flat_S ms, by rw [if_neg (by decide), inV_S]; exact q⟩
theorem i_inV (h : H p = some (.lst (ms.map S))) (f : flatV v = true) (q : Q (.bl (inV v (ms.map S))) H) : inP K v (.ref p) H Q :=
  .inr ⟨p, _, rfl, .inl (.inl (.inl h)), f, flat_S ms, by rw [if_neg (by decide)]; exact q⟩
theorem i_ninV (h : H p = some (.lst (ms.map S))) (f : flatV v = true) (q : Q (.bl (!inV v (ms.map S))) H) : notInP K v (.ref p) H Q :=
  .inr ⟨p, _, rfl, .inl (.inl (.inl h)), f, flat_S ms, by rw [if_pos rfl]; exact q⟩
end
def flatD : PyData → Bool
  | .none | .bool _ | .int _ | .str _ => true
  | _ => false
theorem flat_at {H : Hp} {v : V} {d : PyData} (h : At H v d) (f : flatD d = true) : flatV v = true := by
  cases h <;> first
    | rfl
    | cases f
theorem in_LT {H : Hp} {v : V} {d : PyData} (h : At H v d) (f : flatD d = true) : inV v ([[103], [114], [119]].map S) = isLt d := by
  cases h with
  | str l hl =>
    rw [inV_S, isLt_str]
    match l with
    | [] => rfl
    | [c] =>
      show _ = decide (c ∈ LT)
      rw [Bool.eq_iff_iff]; simp
    | a :: b :: r => simp [ltL]
  | non => rfl
  | bl b => rfl
  | int i => rfl
  | _ => cases f
theorem in_SG {H : Hp} {v : V} {d : PyData} (h : At H v d) (f : flatD d = true) : inV v ([[46], [103], [114], [119]].map S) = isSg d := by
  cases h with
  | str l hl =>
    rw [inV_S, isSg_str]
    match l with
    | [] => rfl
    | [c] =>
      show _ = decide (c ∈ SG)
      rw [Bool.eq_iff_iff]; simp
    | a :: b :: r => simp [sgL]
  | non => rfl
  | bl b => rfl
  | int i => rfl
  | _ => cases f
theorem i_slT {K : PySem.W.Frag} {H : Hp} {Q : VK} {a : Addr} {xs : List V} {lo hi : Option Int} (h : SqT K H a xs) (q1 : HT.sIx xs.length 0 lo = 0 ∧ HT.sIx xs.length xs.length hi = xs.length → Q (.ref a) H)
    (q2 : ¬ (HT.sIx xs.length 0 lo = 0 ∧ HT.sIx xs.length xs.length hi = xs.length) → ∀ p, H p = none → Q (.ref p) (upd H p (.tup (cutV xs lo hi)))) : slP K (.ref a) lo hi H Q := .inr (.inl ⟨a, xs, rfl, h, q1, q2⟩)
theorem cutV_from1 (x : V) (xs : List V) : cutV (x :: xs) (some 1) none = xs := by
  have e : cutV (x :: xs) (some ((1 : Nat) : Int)) none = xs := by
    unfold cutV
    rw [HT.sIx_none, HT.sIx_nat]
    have : min 1 (x :: xs).length = 1 := by simp
    rw [this]
    simp
  exact e
theorem isI_is {d : PyData} (h : isI d = true) : ∃ i, d = .int i := by
  cases d <;> first
    | exact ⟨_, rfl⟩
    | cases h
theorem isI_no {d : PyData} {lo hi : Int} (h : isI d = false) : isIn d lo hi = false := by
  cases d <;> first
    | rfl
    | cases h
/-- a weather of scalars -/
def FlatT (ds : List PyData) : Prop := ∀ d ∈ ds, flatD d = true
section
variable {P : Program} {w : World} {K : PySem.W.Frag} {mg : Str → Option Value} {base : Heap} {C_GlimError C_BadLine C_BadWeather C_Lines : Addr}
def p_L_is_weather : P1 := fun x H Q _ => ∃ ds, At H x (.tuple ds) ∧ FlatT ds ∧ ∀ H', Same H H' → Q (.bl (isW (.tuple ds))) H'
theorem ok_L_is_weather (T : Txt K mg C_GlimError C_BadLine C_BadWeather C_Lines) : OK P w K mg base CX0 2 "_law_is_weather" ["_law_thing"] (sp1  p_L_is_weather) := by
  refine OK.mk (k := 1) T.d_L_is_weather sc_L_is_weather len1 fun f cdv A outer s H vs Q E hr h => ?_
  obtain ⟨x, rfl, h⟩ := h
  refine ⟨_, (pss_cons (ps_if (pw_or (pt_not (pt_val (pe_callB (cIsi K) (by rfl) T.b_isinstance (by decide +kernel) (pa_cons (pv 0) (pa_cons (pe_bltn (v := .ty "tuple") (by rfl) T.b_tuple (by decide +kernel) rfl) pa_nil))))) (pw_or (pt_cmpR (opEq K hr.units) (pe_callB (cLen K) (by rfl) T.b_len (by decide +kernel) (pa_cons (pv 0) pa_nil)) pe_int (nomark _)) (pw_or1 (pt_not (pt_val (pe_callB (cIsi K) (by rfl) T.b_isinstance (by decide +kernel) (pa_cons (pe_ix (ixK K) (pv 0) pe_int (fun _ _ => rfl)) (pa_cons (pe_bltn (v := .ty "str") (by rfl) T.b_str (by decide +kernel) rfl) pa_nil)))))))).pt (pss_one (ps_ret pe_bl)) pss_nil) (pss_cons (ps_set (i := 1) sc_L_is_weather.nd rfl (Or.inl rfl) (pe_slice (slK K) (pv 0) (po_some pe_int) po_none)) (pss_cons (ps_if (pt_cmpR (opEq K hr.units) (pe_ix (ixK K) (pv 0) pe_int (fun _ _ => rfl)) (pe_S [108, 111, 115, 101]) (nomark _)) (pss_one (ps_ret (pe_and (pe_cmpR (opEq K hr.units) (pe_callB (cLen K) (by rfl) T.b_len (by decide +kernel) (pa_cons (pv 1) pa_nil)) pe_int (nomark _)) (pe_and (pe_f (ok_L_is_int (K := K) T) (hr.mono (by decide)) pass0 (pa_cons (pe_ix (ixK K) (pv 1) pe_int (fun _ _ => rfl)) pa_nil)) (pe_and (pe_cmpR op_leP pe_int (pe_ix (ixK K) (pv 1) pe_int (fun _ _ => rfl)) (nomark _)) (pe_one (pe_cmpR op_leP (pe_ix (ixK K) (pv 1) pe_int (fun _ _ => rfl)) pe_int (nomark _)))))))) pss_nil) (pss_cons (ps_if (pt_cmpR (opEq K hr.units) (pe_ix (ixK K) (pv 0) pe_int (fun _ _ => rfl)) (pe_S [109, 105, 115, 115]) (nomark _)) (pss_cons (ps_if (pw_or (pt_cmpR (opNe K hr.units) (pe_callB (cLen K) (by rfl) T.b_len (by decide +kernel) (pa_cons (pv 1) pa_nil)) pe_int (nomark _)) (pw_or (pt_not (pt_val (pe_f (ok_L_is_int (K := K) T) (hr.mono (by decide)) pass0 (pa_cons (pe_ix (ixK K) (pv 1) pe_int (fun _ _ => rfl)) pa_nil)))) (pw_or1 (pt_not (pt_val (pe_f (ok_L_is_int (K := K) T) (hr.mono (by decide)) pass0 (pa_cons (pe_ix (ixK K) (pv 1) pe_int (fun _ _ => rfl)) pa_nil))))))).pt (pss_one (ps_ret pe_bl)) pss_nil) (pss_one (ps_ret (pe_and (pe_cmpR op_leP pe_int (pe_ix (ixK K) (pv 1) pe_int (fun _ _ => rfl)) (nomark _)) (pe_and (pe_cmpR op_leP (pe_ix (ixK K) (pv 1) pe_int (fun _ _ => rfl)) pe_int (nomark _)) (pe_and (pe_cmpR op_ltP (pe_ix (ixK K) (pv 1) pe_int (fun _ _ => rfl)) (pe_ix (ixK K) (pv 1) pe_int (fun _ _ => rfl)) (nomark _)) (pe_one (pe_cmpR op_leP (pe_ix (ixK K) (pv 1) pe_int (fun _ _ => rfl)) pe_int (nomark _))))))))) pss_nil) (pss_cons (ps_if (pw_or (pt_cmpR (opEq K hr.units) (pe_ix (ixK K) (pv 0) pe_int (fun _ _ => rfl)) (pe_S [116, 97, 107, 101]) (nomark _)) (pw_or1 (pt_cmpR (opEq K hr.units) (pe_ix (ixK K) (pv 0) pe_int (fun _ _ => rfl)) (pe_S [97, 108, 119, 97, 121, 115]) (nomark _)))).pt (pss_cons (ps_if (pw_or (pt_cmpR (opNe K hr.units) (pe_callB (cLen K) (by rfl) T.b_len (by decide +kernel) (pa_cons (pv 1) pa_nil)) pe_int (nomark _)) (pw_or1 (pt_cmpR (opNotIn K) (pe_ix (ixK K) (pv 1) pe_int (fun _ _ => rfl)) (pe_lst (pa_cons (pe_S [103]) (pa_cons (pe_S [114]) (pa_cons (pe_S [119]) pa_nil)))) (by with_unfolding_all rfl)))).pt (pss_one (ps_ret pe_bl)) pss_nil) (pss_one (ps_ret (pe_and (pe_cmpR (opIn K) (pe_ix (ixK K) (pv 1) pe_int (fun _ _ => rfl)) (pe_lst (pa_cons (pe_S [46]) (pa_cons (pe_S [103]) (pa_cons (pe_S [114]) (pa_cons (pe_S [119]) pa_nil))))) (by with_unfolding_all rfl)) (pe_one (pe_cmpR (opNe K hr.units) (pe_ix (ixK K) (pv 1) pe_int (fun _ _ => rfl)) (pe_ix (ixK K) (pv 1) pe_int (fun _ _ => rfl)) (nomark _))))))) pss_nil) (pss_one (ps_ret (pe_and (pe_cmpR (opEq K hr.units) (pe_callB (cLen K) (by rfl) T.b_len (by decide +kernel) (pa_cons (pv 1) pa_nil)) pe_int (nomark _)) (pe_one (pe_or (pe_cmpR (opEq K hr.units) (pe_ix (ixK K) (pv 0) pe_int (fun _ _ => rfl)) (pe_S [103, 108, 111, 119]) (nomark _)) (pe_one (pe_cmpR (opEq K hr.units) (pe_ix (ixK K) (pv 0) pe_int (fun _ _ => rfl)) (pe_S [108, 97, 116, 101]) (nomark _))))))))))))), ?_⟩
  show (_ : TS) { nx := fun _ H' => Q .non H', rt := Q } [some x, none] H
  obtain ⟨ds, hx, fl, q⟩ := h
  obtain ⟨a, xs, rfl, hH, hl, al⟩ := hx.tupled
  have ll := al.len
  walk_at "go"
  refine i_isiTup true hx rfl ?_
  walk_at "go"
  refine i_len_tup (.inl (.inl hH)) ?_
  walk_at "go"
  cases ds with
  | nil =>
    have e0 : ((xs.length : Int) = 0) := by have := (show xs.length = 0 from ll); omega
    rw [decide_eq_true e0]
    walk_at "go"
    exact q _ (Same.refl H)
  | cons w r =>
    have e0 : ¬ ((xs.length : Int) = 0) := by simp at ll; omega
    rw [decide_eq_false e0]
    cases xs with
    | nil => cases ll
    | cons v0 vr =>
    cases al with
    | cons a0 ar =>
    walk_at "go"
    cases w
    case str wx =>
      obtain ⟨l, rfl, rfl, hl0⟩ := a0.strl
      have q : ∀ H', Same H H' → Q (.bl (wKind l r)) H' := q
      unfold wKind at q
      walk_at "go"
      refine i_slT (.inl (.inl hH)) (fun z => ?_) (fun _ p np => ?_)
      · exfalso
        have z1 := z.1
        have : HT.sIx (S l :: vr).length 0 (some ((1 : Nat) : Int)) = 0 := z1
        rw [HT.sIx_nat] at this
        simp at this
      rw [cutV_from1]
      have s1 : Same H (upd H p (.tup vr)) := same_upd np
      have hR : (upd H p (.tup vr)) p = some (.tup vr) := upd_same
      have hH1 := s1 _ _ hH
      have ar1 := ar.same s1
      have rl := ar.len
      generalize upd H p (.tup vr) = H1 at *
      have ix : ∀ {R : VK}, R (S l) H1 → ixP K (.ref a) (.int 0) H1 R := fun k => i_ix_tup (z := 0) (.inl (.inl hH1)) (atI_int (by decide) rfl) k
      have frest : ∀ d ∈ r, flatD d = true := fun d hd => fl d (List.mem_cons_of_mem _ hd)
      have len : ∀ {R : VK}, R (.int (vr.length : Int)) H1 → rLenP K [.ref p] H1 R := fun k => i_len_tup (.inl (.inl hR)) k
      walk_at "go"
      refine i_dec (fun e => ?_) (fun e => ?_)
      · simp only [if_pos e] at q
        walk_at "go"
        refine len ?_
        walk_at "go"
        refine i_dec (fun e1 => ?_) (fun e1 => ?_)
        case refine_2 =>
          have e3 : isLose r = false := by
            match r, rl with
            | [], _ => rfl
            | [n], rl => exact absurd (by simp at rl; omega) e1
            | a :: b :: r, _ => rfl
          rw [e3] at q
          exact q _ s1
        obtain ⟨n, rfl⟩ : ∃ n, r = [n] := List.length_eq_one_iff.mp (by omega)
        obtain ⟨v1, hv1, a1⟩ := ar1.at (i := 0) (d := n) rfl
        have q := q _ s1
        change Q (.bl (isIn n 1 9)) H1 at q
        have i1 : ∀ {R : VK}, R v1 H1 → ixP K (.ref p) (.int 0) H1 R := fun k => i_ix_tup (z := 0) (.inl (.inl hR)) (atI_int (by decide) hv1) k
        walk_at "go"
        refine i1 ?_
        walk_at "go"
        refine ⟨n, a1, ?_⟩
        cases n
        case int i =>
          obtain rfl := a1.intd
          rw [isIn_int] at q
          walk_at "go"
          show if true = true then _ else _
          walk_at "go"
          refine i1 ?_
          walk_at "go"
          refine i_dec (fun e4 => ?_) (fun e4 => ?_)
          · walk_at "go"
            refine i1 ?_
            walk_at "go"
            rw [decide_eq_true e4, Bool.true_and] at q
            exact q
          · rw [decide_eq_false e4, Bool.false_and] at q
            exact q
        all_goals
          show ∃ c, V.bl false = .bl c ∧ _
          refine ⟨false, rfl, ?_⟩
          walk_at "go"
          exact q
      simp only [if_neg e] at q
      walk_at "go"
      refine i_dec (fun e2 => ?_) (fun e2 => ?_)
      · simp only [if_pos e2] at q
        walk_at "go"
        refine len ?_
        walk_at "go"
        refine i_decN (fun e1 => ?_) (fun e1 => ?_)
        · have e3 : isMiss r = false := by
            match r, rl with
            | [], _ => rfl
            | [n], _ => rfl
            | [a, b], rl => exact absurd (by simp at rl; omega) e1
            | a :: b :: c :: r, _ => rfl
          rw [e3] at q
          walk_at "go"
          exact q _ s1
        obtain ⟨m, n, rfl⟩ := two_of (r := r) (by omega)
        obtain ⟨v1, hv1, a1⟩ := ar1.at (i := 0) (d := m) rfl
        obtain ⟨v2, hv2, a2⟩ := ar1.at (i := 1) (d := n) rfl
        have q := q _ s1
        change Q (.bl (isIn m 1 2 && isIn n 2 8 && lessD m n)) H1 at q
        have i1 : ∀ {R : VK}, R v1 H1 → ixP K (.ref p) (.int 0) H1 R := fun k => i_ix_tup (z := 0) (.inl (.inl hR)) (atI_int (by decide) hv1) k
        have i2 : ∀ {R : VK}, R v2 H1 → ixP K (.ref p) (.int 1) H1 R := fun k => i_ix_tup (z := 1) (.inl (.inl hR)) (atI_int (by decide) hv2) k
        walk_at "go"
        refine i1 ?_
        walk_at "go"
        refine ⟨m, a1, ?_⟩
        cases e3 : isI m with
        | false =>
          rw [isI_no e3] at q
          walk_at "go"
          exact q
        | true =>
        walk_at "go"
        refine i2 ?_
        walk_at "go"
        refine ⟨n, a2, ?_⟩
        cases e4 : isI n with
        | false =>
          rw [isI_no e4, Bool.and_false] at q
          walk_at "go"
          exact q
        | true =>
        obtain ⟨i, rfl⟩ := isI_is e3
        obtain ⟨j, rfl⟩ := isI_is e4
        obtain rfl := a1.intd
        obtain rfl := a2.intd
        have fin : ∀ b : Bool, (b = true ↔ (1 ≤ i ∧ i ≤ 2 ∧ i < j ∧ j ≤ 8)) → Q (.bl b) H1 := fun b hb => by
          have e5 : b = (isIn (.int i) 1 2 && isIn (.int j) 2 8 && lessD (.int i) (.int j)) := by
            rw [Bool.eq_iff_iff, hb, isIn_int, isIn_int]
            show _ ↔ (_ && decide (i < j)) = true
            simp only [Bool.and_eq_true, decide_eq_true_eq]
            omega
          rw [e5]; exact q
        walk_at "go"
        refine i1 ?_
        walk_at "go"
        refine i_dec (fun e5 => ?_) (fun e5 => ?_)
        case refine_2 => exact fin false (by simp; omega)
        walk_at "go"
        refine i1 ?_
        walk_at "go"
        refine i_dec (fun e6 => ?_) (fun e6 => ?_)
        case refine_2 => exact fin false (by simp; omega)
        walk_at "go"
        refine i1 ?_
        walk_at "go"
        refine i2 ?_
        walk_at "go"
        refine i_dec (fun e7 => ?_) (fun e7 => ?_)
        case refine_2 => exact fin false (by simp; omega)
        walk_at "go"
        refine i2 ?_
        walk_at "go"
        exact fin _ (by simp; omega)
      simp only [if_neg e2] at q
      walk_at "go"
      refine i_dec (fun e3 => ?_) (fun e3 => ?_)
      · simp only [if_pos (Or.inl e3 : l = cTake ∨ l = cAlw)] at q
        walk_at "go"
        refine len ?_
        walk_at "go"
        refine i_decN (fun e5 => ?_) (fun e5 => ?_)
        · have e6 : isTk r = false := by
            match r, rl with
            | [], _ => rfl
            | [n], _ => rfl
            | [a, b], rl => exact absurd (by simp at rl; omega) e5
            | a :: b :: c :: r, _ => rfl
          rw [e6] at q
          walk_at "go"
          exact q _ s1
        obtain ⟨m, n, rfl⟩ := two_of (r := r) (by omega)
        obtain ⟨v1, hv1, a1⟩ := ar1.at (i := 0) (d := m) rfl
        obtain ⟨v2, hv2, a2⟩ := ar1.at (i := 1) (d := n) rfl
        have q : ∀ H', Same H H' → Q (.bl (isLt m && isSg n && neqS m n)) H' := q
        have fm := frest m (by simp)
        have fn := frest n (by simp)
        walk_at "go"
        refine i_ix_tup (z := 0) (v := v1) (.inl (.inl hR)) (atI_int (by decide) hv1) ?_
        walk_at "go"
        refine i_new (by show 3 ≤ 100000; omega) fun lp nlp => ?_
        have s2 := s1.trans (same_upd (o := .lst ([[103], [114], [119]].map S)) nlp)
        have hR2 : (upd H1 lp (.lst ([[103], [114], [119]].map S))) p = some (.tup vr) := same_upd nlp _ _ hR
        refine i_ninV (show upd H1 lp (.lst ([[103], [114], [119]].map S)) lp = _ from upd_same) (flat_at a1 fm) ?_
        rw [in_LT a1 fm]
        cases e7 : isLt m with
        | false =>
          rw [e7] at q
          walk_at "go"
          exact q _ s2
        | true =>
        rw [e7] at q
        walk_at "go"
        refine i_ix_tup (z := 1) (v := v2) (.inl (.inl hR2)) (atI_int (by decide) hv2) ?_
        walk_at "go"
        refine i_new (by show 4 ≤ 100000; omega) fun lq nlq => ?_
        have s3 := s2.trans (same_upd (o := .lst ([[46], [103], [114], [119]].map S)) nlq)
        have hR3 := same_upd (o := .lst ([[46], [103], [114], [119]].map S)) nlq _ _ hR2
        refine i_inV (show upd (upd H1 lp (.lst ([[103], [114], [119]].map S))) lq (.lst ([[46], [103], [114], [119]].map S)) lq = _ from upd_same) (flat_at a2 fn) ?_
        rw [in_SG a2 fn]
        cases e8 : isSg n with
        | false =>
          rw [e8] at q
          walk_at "go"
          exact q _ s3
        | true =>
        obtain ⟨c1, rfl, _⟩ := isLt_is e7
        obtain ⟨c2, rfl, _⟩ := isSg_is e8
        obtain rfl := a1.strd
        obtain rfl := a2.strd
        rw [e8] at q
        walk_at "go"
        refine i_ix_tup (z := 0) (v := S [c1]) (.inl (.inl hR3)) (atI_int (by decide) hv1) ?_
        walk_at "go"
        refine i_ix_tup (z := 1) (v := S [c2]) (.inl (.inl hR3)) (atI_int (by decide) hv2) ?_
        walk_at "go"
        have q' := q _ s3
        simpa [neqS] using q'
      walk_at "go"
      refine i_dec (fun e4 => ?_) (fun e4 => ?_)
      · simp only [if_pos (Or.inr e4 : l = cTake ∨ l = cAlw)] at q
        walk_at "go"
        refine len ?_
        walk_at "go"
        refine i_decN (fun e5 => ?_) (fun e5 => ?_)
        · have e6 : isTk r = false := by
            match r, rl with
            | [], _ => rfl
            | [n], _ => rfl
            | [a, b], rl => exact absurd (by simp at rl; omega) e5
            | a :: b :: c :: r, _ => rfl
          rw [e6] at q
          walk_at "go"
          exact q _ s1
        obtain ⟨m, n, rfl⟩ := two_of (r := r) (by omega)
        obtain ⟨v1, hv1, a1⟩ := ar1.at (i := 0) (d := m) rfl
        obtain ⟨v2, hv2, a2⟩ := ar1.at (i := 1) (d := n) rfl
        have q : ∀ H', Same H H' → Q (.bl (isLt m && isSg n && neqS m n)) H' := q
        have fm := frest m (by simp)
        have fn := frest n (by simp)
        walk_at "go"
        refine i_ix_tup (z := 0) (v := v1) (.inl (.inl hR)) (atI_int (by decide) hv1) ?_
        walk_at "go"
        refine i_new (by show 3 ≤ 100000; omega) fun lp nlp => ?_
        have s2 := s1.trans (same_upd (o := .lst ([[103], [114], [119]].map S)) nlp)
        have hR2 : (upd H1 lp (.lst ([[103], [114], [119]].map S))) p = some (.tup vr) := same_upd nlp _ _ hR
        refine i_ninV (show upd H1 lp (.lst ([[103], [114], [119]].map S)) lp = _ from upd_same) (flat_at a1 fm) ?_
        rw [in_LT a1 fm]
        cases e7 : isLt m with
        | false =>
          rw [e7] at q
          walk_at "go"
          exact q _ s2
        | true =>
        rw [e7] at q
        walk_at "go"
        refine i_ix_tup (z := 1) (v := v2) (.inl (.inl hR2)) (atI_int (by decide) hv2) ?_
        walk_at "go"
        refine i_new (by show 4 ≤ 100000; omega) fun lq nlq => ?_
        have s3 := s2.trans (same_upd (o := .lst ([[46], [103], [114], [119]].map S)) nlq)
        have hR3 := same_upd (o := .lst ([[46], [103], [114], [119]].map S)) nlq _ _ hR2
        refine i_inV (show upd (upd H1 lp (.lst ([[103], [114], [119]].map S))) lq (.lst ([[46], [103], [114], [119]].map S)) lq = _ from upd_same) (flat_at a2 fn) ?_
        rw [in_SG a2 fn]
        cases e8 : isSg n with
        | false =>
          rw [e8] at q
          walk_at "go"
          exact q _ s3
        | true =>
        obtain ⟨c1, rfl, _⟩ := isLt_is e7
        obtain ⟨c2, rfl, _⟩ := isSg_is e8
        obtain rfl := a1.strd
        obtain rfl := a2.strd
        rw [e8] at q
        walk_at "go"
        refine i_ix_tup (z := 0) (v := S [c1]) (.inl (.inl hR3)) (atI_int (by decide) hv1) ?_
        walk_at "go"
        refine i_ix_tup (z := 1) (v := S [c2]) (.inl (.inl hR3)) (atI_int (by decide) hv2) ?_
        walk_at "go"
        have q' := q _ s3
        simpa [neqS] using q'
      simp only [if_neg (fun z => z.elim e3 e4 : ¬ (l = cTake ∨ l = cAlw))] at q
      have q := q _ s1
      walk_at "go"
      refine len ?_
      walk_at "go"
      refine i_dec (fun e5 => ?_) (fun e5 => ?_)
      · have er : r = [] := by
          cases r with
          | nil => rfl
          | cons a r => simp at rl; omega
        subst er
        walk_at "go"
        refine i_dec (fun e6 => ?_) (fun e6 => ?_)
        · rw [decide_eq_true e6] at q
          simpa using q
        · rw [decide_eq_false e6] at q
          walk_at "go"
          simpa using q
      · have er : r.isEmpty = false := by
          cases r with
          | nil =>
            have := (show vr.length = 0 from rl)
            omega
          | cons a r => rfl
        rw [er] at q
        simpa using q
    all_goals
      refine i_isiStr false a0 rfl ?_
      walk_at "go"
      exact q _ (Same.refl H)
end
end K12
namespace K12
open PySem PySem.Spec PyProof.Rows L2 Fg
local macro_rules | `(tactic| walk_at "sq") => `(tactic| first
  | assumption
  | exact .inl (.inl (by assumption))
  | exact .inl (.inl upd_same))
local macro_rules | `(tactic| walk_at "st") => `(tactic| first
  | assumption
  | exact .inl (.inl (by assumption))
  | exact .inl (.inl upd_same))
local macro_rules | `(tactic| walk_at "o") => `(tactic| first
  | omega
  | assumption
  | (simp only [List.length_append, List.length_take, List.length_drop, List.length_cons, List.length_nil, List.length_singleton, List.length_map, List.length_range, Int.toNat_natCast] ; omega))
local macro_rules | `(tactic| walk_at "s") => `(tactic| first
  | (with_reducible refine i_seq ?_)
  | (with_reducible refine i_asg ?_)
  | ((with_reducible refine' i_var ?h1 ?_); (case h1 => rfl))
  | (with_reducible refine i_c ?_)
  | ((with_reducible refine' i_gname' ?h1 ?_); (case h1 => (simp only [List.set_cons_zero, List.set_cons_succ]; rfl)))
  | (with_reducible refine i_op ?_)
  | (with_reducible refine i_ifS ?_)
  | (with_reducible refine i_for ?_)
  | (with_reducible refine i_test ?_)
  | (with_reducible refine i_B ?_)
  | (with_reducible refine i_exbl ?_)
  | (with_reducible refine i_exint ?_)
  | (with_reducible refine i_cb ?_)
  | (with_reducible refine i_nil ?_)
  | (with_reducible refine i_cons ?_)
  | (with_reducible refine i_ret ?_)
  | (with_reducible refine i_sl ?_)
  | (with_reducible refine i_nopart ?_)
  | (with_reducible refine i_part ?_)
  | (with_reducible refine i_add_int ?_)
  | (with_reducible refine i_sub ?_)
  | (with_reducible refine i_lt ?_)
  | ((with_reducible refine' i_mod ?h1 ?_); (case h1 => walk_at "o"))
  | ((with_reducible refine' i_fdiv ?h1 ?_); (case h1 => (refine cdiv_small ?_ ?_ <;> walk_at "o")))
  | ((with_reducible refine' i_sl_to ?h1 ?h2 ?_); (case h1 => walk_at "o"); (case h2 => walk_at "o"))
  | ((with_reducible refine' i_sl_from ?h1 ?h2 ?_); (case h1 => walk_at "o"); (case h2 => walk_at "o"))
  | ((with_reducible refine' i_add_str ?h1 ?_); (case h1 => walk_at "o"))
  | ((with_reducible refine' i_mul_int ?h1 ?_); (case h1 => first | (refine mul_small ?_ ?_ <;> walk_at "o") | (refine mul_smallR ?_ ?_ <;> walk_at "o")))
  | (with_reducible refine i_le ?_)
  | (with_reducible refine i_gt ?_)
  | (with_reducible refine i_ge ?_)
  | (with_reducible refine i_eq_int ?_)
  | (with_reducible refine i_eq_str ?_)
  | (with_reducible refine i_ne_int ?_)
  | (with_reducible refine i_ne_str ?_)
  | (with_reducible refine i_eq_bl ?_)
  | (with_reducible refine i_ne_bl ?_)
  | (with_reducible refine i_in_sg ?_)
  | (with_reducible refine i_notIn_sg ?_)
  | (with_reducible refine i_call ?_)
  | (with_reducible refine i_callS ?_)
  | (with_reducible refine i_sp1 ?_)
  | (with_reducible refine i_sp2 ?_)
  | (with_reducible refine i_sp3 ?_)
  | (with_reducible refine i_sp4 ?_)
  | (with_reducible refine i_sp1' ?_)
  | (with_reducible refine i_sp2' ?_)
  | (with_reducible refine i_sp3' ?_)
  | ((with_reducible refine' i_ix_lst ?h1 ?h2 ?_); (case h1 => walk_at "sq"); (case h2 => first | exact atI_nat rfl | rfl))
  | ((with_reducible refine' i_ix_tup ?h1 ?h2 ?_); (case h1 => walk_at "st"); (case h2 => first | exact atI_nat rfl | rfl))
  | (with_reducible refine i_gsub ?_)
  | (with_reducible refine i_par ?_)
  | (with_reducible refine i_lstRg1 ?_)
  | (with_reducible refine i_app ?_)
  | (with_reducible refine i_par2 ?_)
  | ((with_reducible refine' i_aug ?h1 ?_); (case h1 => rfl))
  | (with_reducible refine i_ipI ?_)
  | ((with_reducible refine' i_gtup2 ?h1 ?_); (case h1 => walk_at "st"))
  | (with_reducible refine i_int_bl ?_)
  | (with_reducible refine i_raise ?_)
  | (with_reducible refine i_mkE ?_)
  | (with_reducible refine i_ex1 ?_)
  | (with_reducible refine i_and ?_)
  | (with_reducible refine i_or ?_)
  | (with_reducible refine i_not ?_)
  | (with_reducible refine i_tt ?_)
  | (with_reducible refine i_ff ?_)
  | (with_reducible refine i_nott ?_)
  | (with_reducible refine i_notf ?_)
  | (with_reducible refine i_andV ?_)
  | (with_reducible refine i_orV ?_)
  | (with_reducible refine i_notV ?_)
  | (with_reducible refine i_ifE ?_)
  | (with_reducible refine i_tup ?_)
  | (with_reducible refine i_lst ?_)
  | (with_reducible refine i_un ?_)
  | (with_reducible refine i_neg ?_)
  | (with_reducible refine i_chain ?_)
  | (with_reducible refine i_next ?_)
  | (with_reducible refine i_retN ?_)
  | (with_reducible refine i_drop ?_)
  | (with_reducible refine i_int_int ?_)
  | (with_reducible refine i_abs ?_)
  | (with_reducible refine i_m1c ?_)
  | (with_reducible refine i_is_non ?_)
  | (with_reducible refine i_is_int ?_)
  | (with_reducible refine i_is_bl ?_)
  | (with_reducible refine i_isn_bl ?_)
  | (with_reducible refine i_is_str ?_)
  | (with_reducible refine i_is_ref ?_)
  | (with_reducible refine i_isn_non ?_)
  | (with_reducible refine i_isn_int ?_)
  | (with_reducible refine i_isn_str ?_)
  | (with_reducible refine i_isn_ref ?_)
  | (with_reducible refine i_len_str ?h1 ?_; (case h1 => walk_at "o"))
  | (with_reducible refine i_callD ?_)
  | (with_reducible refine i_spD2 ?_)
  | (with_reducible refine i_spM1 ?_)
  | (with_reducible refine i_spM2 ?_)
  | (with_reducible refine i_spM3 ?_)
  | (with_reducible refine i_spM4 ?_)
  | (with_reducible refine i_spM3d ?_)
  | (with_reducible refine i_tfld ?_)
  | (with_reducible refine i_sfld ?_)
  | (with_reducible refine i_meth ?_)
  | (with_reducible refine i_make ?_)
  | (with_reducible refine i_spl ?_)
  | (with_reducible refine i_mkE2 ?_)
  | (with_reducible refine i_ex2 ?_)
  | (with_reducible refine i_dget ?_)
  | (with_reducible refine i_tru ?_)
  | (with_reducible refine i_dput ?_)
  | (with_reducible refine i_dnotin ?_)
  | (with_reducible refine i_din ?_)
  | (with_reducible refine i_isi_int_int ?_) | (with_reducible refine i_isi_int_bool ?_) | (with_reducible refine i_isi_int_str ?_) | (with_reducible refine i_isi_int_tuple ?_) | (with_reducible refine i_isi_int_list ?_)
  | (with_reducible refine i_isi_bl_int ?_) | (with_reducible refine i_isi_bl_bool ?_) | (with_reducible refine i_isi_bl_str ?_) | (with_reducible refine i_isi_bl_tuple ?_) | (with_reducible refine i_isi_bl_list ?_)
  | (with_reducible refine i_isi_str_int ?_) | (with_reducible refine i_isi_str_bool ?_) | (with_reducible refine i_isi_str_str ?_) | (with_reducible refine i_isi_str_tuple ?_) | (with_reducible refine i_isi_str_list ?_)
  | (with_reducible refine i_isi_non_int ?_) | (with_reducible refine i_isi_non_bool ?_) | (with_reducible refine i_isi_non_str ?_) | (with_reducible refine i_isi_non_tuple ?_) | (with_reducible refine i_isi_non_list ?_))
local macro_rules | `(tactic| walk_at "go") => `(tactic| (repeat' (walk_at "s")))
local macro_rules | `(tactic| walk_at "n") => `(tactic| simp only [wipe, List.map_cons, List.map_nil, List.set_cons_zero, List.set_cons_succ])
def FlatW (d : PyData) : Prop := ∃ es, d = .tuple es ∧ FlatT es
theorem flatD_deep {d : PyData} (h : flatD d = true) : deepD d = d := by
  cases d <;> first
    | rfl
    | cases h
theorem FlatW.deep {d : PyData} (h : FlatW d) : deepD d = d := by
  obtain ⟨es, rfl, fl⟩ := h
  show PyData.tuple (deepD.deepDs es) = _
  rw [deepDs_map]
  have : es.map deepD = es.map id := List.map_congr_left fun d hd => flatD_deep (fl d hd)
  rw [this, List.map_id]
def badL (ds : List PyData) : Option Int := if 6 < ds.length then some (-1) else (badAt ds).map fun n : Nat => (n : Int)
theorem badL_W (ds : List PyData) : badL ds = badW (.tuple ds) := rfl
def optV : Option Int → V
  | none => .non
  | some k => .int k
def fmT : Fm → List Nat
  | .num => [110, 117, 109, 98, 101, 114]
  | .lit => [108, 105, 116]
  | .sg => [115, 105, 103, 110]
theorem numW_in (w : List Nat) : (numW w).isSome = decide (w ∈ [[49], [50], [51], [52], [53], [54], [55], [56], [57]]) := by
  match w with
  | [] => rfl
  | [c] =>
    show (if 49 ≤ c ∧ c ≤ 57 then some ((c : Int) - 48) else none).isSome = _
    rw [Bool.eq_iff_iff]
    by_cases h : 49 ≤ c ∧ c ≤ 57
    · rw [if_pos h]; simp; omega
    · rw [if_neg h]; simp; omega
  | a :: b :: r => simp [numW]
theorem ltL_in (w : List Nat) : ltL w = decide (w ∈ [[103], [114], [119]]) := by
  match w with
  | [] => rfl
  | [c] =>
    show decide (c ∈ LT) = _
    rw [Bool.eq_iff_iff]; simp
  | a :: b :: r => simp [ltL]
theorem sgL_in (w : List Nat) : sgL w = (decide (w ∈ [[103], [114], [119]]) || decide (w = [46])) := by
  match w with
  | [] => rfl
  | [c] =>
    show decide (c ∈ SG) = _
    rw [Bool.eq_iff_iff]; simp; omega
  | a :: b :: r => simp [sgL]
section
variable {P : Program} {w : World} {K : PySem.W.Frag} {mg : Str → Option Value} {base : Heap} {C_GlimError C_BadLine C_BadWeather C_Lines : Addr}
def p_L_bad : P1 := fun x H Q _ => ∃ ds, At H x (.list ds) ∧ (∀ d ∈ ds, FlatW d) ∧ ∀ H', Same H H' → Q (optV (badL ds)) H'
theorem ok_L_bad (T : Txt K mg C_GlimError C_BadLine C_BadWeather C_Lines) : OK P w K mg base CX0 3 "_law_bad" ["_law_things"] (sp1  p_L_bad) := by
  refine OK.mk (k := 2) T.d_L_bad sc_L_bad len1 fun f cdv A outer s H vs Q E hr h => ?_
  obtain ⟨x, rfl, h⟩ := h
  refine ⟨_, (pss_cons (ps_if (pt_cmpR op_gtP (pe_callB (cLen K) (by rfl) T.b_len (by decide +kernel) (pa_cons (pv 0) pa_nil)) pe_int (nomark _)) (pss_one (ps_ret (pe_un un_neg pe_int))) pss_nil) (pss_cons (ps_for PassesOwn.never rfl (pi_range1 rfl T.b_range (pa_cons (pe_callB (cLen K) (by rfl) T.b_len (by decide +kernel) (pa_cons (pv 0) pa_nil)) pa_nil)) (pg_name (i := 1) sc_L_bad.nd rfl (Or.inl rfl)) (pss_one (ps_if (pt_not (pt_val (pe_f (ok_L_is_weather (K := K) T) (hr.mono (by decide)) pass0 (pa_cons (pe_ix (ixK K) (pv 0) (pv 1) (fun _ _ => rfl)) pa_nil)))) (pss_one (ps_ret (pv 1))) pss_nil))) (pss_one (ps_ret pe_non)))), ?_⟩
  show (_ : TS) { nx := fun _ H' => Q .non H', rt := Q } [some x, none] H
  obtain ⟨ds, hx, fl, q⟩ := h
  obtain ⟨a, xs, rfl, hH, hl, al⟩ := hx.listed
  have ll := al.len
  unfold badL at q
  walk_at "go"
  refine i_len_lst (.inl (.inl hH)) ?_
  walk_at "go"
  refine i_dec (fun e1 => ?_) (fun e1 => ?_)
  · rw [if_pos (by omega)] at q
    walk_at "go"
    exact q _ (Same.refl H)
  rw [if_neg (by omega)] at q
  walk_at "go"
  refine f_rng1 xs.length (fun R k => by walk_at "go"; exact i_len_lst (.inl (.inl hH)) k) (by omega) (fun i σ H' => ∃ v, σ = [some (.ref a), v] ∧ Same H H' ∧ ∀ k < i, ∀ c, ds[k]? = some c → isW (deepD c) = true) ⟨none, rfl, Same.refl H, fun k hk => absurd hk (Nat.not_lt_zero _)⟩ ?_ ?_
  · rintro i σ H' hi ⟨v, rfl, s1, hb⟩
    show (_ : TS) _ [some (.ref a), some (.int (i : Int))] H'
    have he : ds[i]? = some ds[i] := List.getElem?_eq_getElem (by omega)
    generalize ds[i] = c at he
    obtain ⟨vx, hvx, ax⟩ := al.at he
    have fc := fl c (List.mem_of_getElem? he)
    have dc := fc.deep
    obtain ⟨es, rfl, fe⟩ := fc
    walk_at "go"
    refine i_ix_lst (v := vx) (.inl (.inl (s1 _ _ hH))) (atI_nat hvx) ?_
    walk_at "go"
    refine ⟨es, ax.same s1, fe, fun H2 s2 => ?_⟩
    cases ew : isW (.tuple es) with
    | true =>
      walk_at "go"
      refine ⟨_, rfl, s1.trans s2, fun k hk c' hc' => ?_⟩
      rcases Nat.lt_or_ge k i with h | h
      · exact hb k h c' hc'
      · have : k = i := by omega
        subst this
        rw [he] at hc'
        cases hc'
        rw [dc]; exact ew
    | false =>
      rw [badAt_some he (by rw [dc]; exact ew) hb] at q
      walk_at "go"
      exact q _ (s1.trans s2)
  · rintro σ H' ⟨v, rfl, s1, hb⟩
    rw [badAt_none (ds := ds) (fun k hk => hb k (by omega))] at q
    walk_at "go"
    exact q _ s1
def p_L_forms : P1 := fun x H Q _ => ∃ w, x = S w ∧ (match forms w with | none => Q .non H | some fs => ∀ l, H l = none → Q (.ref l) (upd H l (.lst ((fs.map fmT).map S))))
theorem ok_L_forms (T : Txt K mg C_GlimError C_BadLine C_BadWeather C_Lines) : OK P w K mg base CX0 1 "_law_forms" ["_law_word_here"] (sp1  p_L_forms) := by
  refine OK.mk (k := 0) T.d_L_forms sc_L_forms len1 fun f cdv A outer s H vs Q E hr h => ?_
  obtain ⟨x, rfl, h⟩ := h
  refine ⟨_, (pss_cons (ps_if (pt_cmpR (opEq K hr.units) (pv 0) (pe_S [108, 111, 115, 101]) (nomark _)) (pss_one (ps_ret (pe_lst (pa_cons (pe_S [110, 117, 109, 98, 101, 114]) pa_nil)))) pss_nil) (pss_cons (ps_if (pt_cmpR (opEq K hr.units) (pv 0) (pe_S [109, 105, 115, 115]) (nomark _)) (pss_one (ps_ret (pe_lst (pa_cons (pe_S [110, 117, 109, 98, 101, 114]) (pa_cons (pe_S [110, 117, 109, 98, 101, 114]) pa_nil))))) pss_nil) (pss_cons (ps_if (pw_or (pt_cmpR (opEq K hr.units) (pv 0) (pe_S [116, 97, 107, 101]) (nomark _)) (pw_or1 (pt_cmpR (opEq K hr.units) (pv 0) (pe_S [97, 108, 119, 97, 121, 115]) (nomark _)))).pt (pss_one (ps_ret (pe_lst (pa_cons (pe_S [108, 105, 116]) (pa_cons (pe_S [115, 105, 103, 110]) pa_nil))))) pss_nil) (pss_cons (ps_if (pw_or (pt_cmpR (opEq K hr.units) (pv 0) (pe_S [103, 108, 111, 119]) (nomark _)) (pw_or1 (pt_cmpR (opEq K hr.units) (pv 0) (pe_S [108, 97, 116, 101]) (nomark _)))).pt (pss_one (ps_ret (pe_lst pa_nil))) pss_nil) (pss_one (ps_ret pe_non)))))), ?_⟩
  show (_ : TS) { nx := fun _ H' => Q .non H', rt := Q } [some x] H
  obtain ⟨w, rfl, q⟩ := h
  unfold forms at q
  walk_at "go"
  refine i_dec (fun e1 => ?_) (fun e1 => ?_)
  · rw [if_pos e1] at q
    walk_at "go"
    exact i_new (by show 1 ≤ 100000; omega) q
  rw [if_neg e1] at q
  walk_at "go"
  refine i_dec (fun e2 => ?_) (fun e2 => ?_)
  · rw [if_pos e2] at q
    walk_at "go"
    exact i_new (by show 2 ≤ 100000; omega) q
  rw [if_neg e2] at q
  walk_at "go"
  refine i_dec (fun e3 => ?_) (fun e3 => ?_)
  · rw [if_pos (.inl e3)] at q
    walk_at "go"
    exact i_new (by show 2 ≤ 100000; omega) q
  walk_at "go"
  refine i_dec (fun e4 => ?_) (fun e4 => ?_)
  · rw [if_pos (.inr e4)] at q
    walk_at "go"
    exact i_new (by show 2 ≤ 100000; omega) q
  rw [if_neg (fun z => z.elim e3 e4)] at q
  walk_at "go"
  refine i_dec (fun e5 => ?_) (fun e5 => ?_)
  · rw [if_pos (.inl e5)] at q
    walk_at "go"
    exact i_new (by show 0 ≤ 100000; omega) q
  walk_at "go"
  refine i_dec (fun e6 => ?_) (fun e6 => ?_)
  · rw [if_pos (.inr e6)] at q
    walk_at "go"
    exact i_new (by show 0 ≤ 100000; omega) q
  rw [if_neg (fun z => z.elim e5 e6)] at q
  walk_at "go"
  exact q
def p_L_stands : P2 := fun x y H Q _ => ∃ f w, x = S (fmT f) ∧ y = S w ∧ ∀ H', Same H H' → Q (.bl (fmD f w).isSome) H'
theorem ok_L_stands (T : Txt K mg C_GlimError C_BadLine C_BadWeather C_Lines) : OK P w K mg base CX0 1 "_law_stands" ["_law_form", "_law_word_here"] (sp2  p_L_stands) := by
  refine OK.mk (k := 0) T.d_L_stands sc_L_stands len2 fun f cdv A outer s H vs Q E hr h => ?_
  obtain ⟨x, y, rfl, h⟩ := h
  refine ⟨_, (pss_cons (ps_if (pt_cmpR (opEq K hr.units) (pv 0) (pe_S [110, 117, 109, 98, 101, 114]) (nomark _)) (pss_one (ps_ret (pe_cmpR (opIn K) (pv 1) (pe_lst (pa_cons (pe_S [49]) (pa_cons (pe_S [50]) (pa_cons (pe_S [51]) (pa_cons (pe_S [52]) (pa_cons (pe_S [53]) (pa_cons (pe_S [54]) (pa_cons (pe_S [55]) (pa_cons (pe_S [56]) (pa_cons (pe_S [57]) pa_nil)))))))))) (by with_unfolding_all rfl)))) pss_nil) (pss_one (ps_ret (pe_or (pe_cmpR (opIn K) (pv 1) (pe_lst (pa_cons (pe_S [103]) (pa_cons (pe_S [114]) (pa_cons (pe_S [119]) pa_nil)))) (by with_unfolding_all rfl)) (pe_one (pe_and (pe_cmpR (opEq K hr.units) (pv 0) (pe_S [115, 105, 103, 110]) (nomark _)) (pe_one (pe_cmpR (opEq K hr.units) (pv 1) (pe_S [46]) (nomark _))))))))), ?_⟩
  show (_ : TS) { nx := fun _ H' => Q .non H', rt := Q } [some x, some y] H
  obtain ⟨f, w, rfl, rfl, q⟩ := h
  cases f with
  | num =>
    have e : (fmD .num w).isSome = decide (w ∈ [[49], [50], [51], [52], [53], [54], [55], [56], [57]]) := by
      rw [← numW_in]
      show ((numW w).map PyData.int).isSome = _
      rw [Option.isSome_map]
    rw [e] at q
    walk_at "go"
    rw [decide_eq_true (show fmT .num = [110, 117, 109, 98, 101, 114] from rfl)]
    walk_at "go"
    refine i_new (by show 9 ≤ 100000; omega) fun p np => ?_
    exact i_inS (ms := [[49], [50], [51], [52], [53], [54], [55], [56], [57]]) upd_same (q _ (same_upd np))
  | lit =>
    have e : (fmD .lit w).isSome = decide (w ∈ [[103], [114], [119]]) := by
      rw [← ltL_in]
      show (if ltL w then some (dS w) else none).isSome = _
      cases ltL w <;> rfl
    rw [e] at q
    walk_at "go"
    rw [decide_eq_false (show ¬ fmT .lit = [110, 117, 109, 98, 101, 114] by decide)]
    walk_at "go"
    refine i_new (by show 3 ≤ 100000; omega) fun p np => ?_
    refine i_inS (ms := [[103], [114], [119]]) upd_same ?_
    walk_at "go"
    refine i_dec (fun e1 => ?_) (fun e1 => ?_)
    · rw [decide_eq_true e1] at q
      exact q _ (same_upd np)
    · rw [decide_eq_false e1] at q
      walk_at "go"
      rw [decide_eq_false (show ¬ fmT .lit = [115, 105, 103, 110] by decide)]
      walk_at "go"
      exact q _ (same_upd np)
  | sg =>
    have e : (fmD .sg w).isSome = (decide (w ∈ [[103], [114], [119]]) || decide (w = [46])) := by
      rw [← sgL_in]
      show (if sgL w then some (dS w) else none).isSome = _
      cases sgL w <;> rfl
    rw [e] at q
    walk_at "go"
    rw [decide_eq_false (show ¬ fmT .sg = [110, 117, 109, 98, 101, 114] by decide)]
    walk_at "go"
    refine i_new (by show 3 ≤ 100000; omega) fun p np => ?_
    refine i_inS (ms := [[103], [114], [119]]) upd_same ?_
    walk_at "go"
    refine i_dec (fun e1 => ?_) (fun e1 => ?_)
    · rw [decide_eq_true e1] at q
      exact q _ (same_upd np)
    · rw [decide_eq_false e1] at q
      walk_at "go"
      rw [decide_eq_true (show fmT .sg = [115, 105, 103, 110] from rfl)]
      walk_at "go"
      exact q _ (same_upd np)
end
end K12
namespace K12
open PySem PySem.Spec PyProof.Rows L2 Fg
open PySem.NumText (AllDigits digitsVal)
local macro_rules | `(tactic| walk_at "sq") => `(tactic| first
  | assumption
  | exact .inl (.inl (by assumption))
  | exact .inl (.inl upd_same))
local macro_rules | `(tactic| walk_at "st") => `(tactic| first
  | assumption
  | exact .inl (.inl (by assumption))
  | exact .inl (.inl upd_same))
local macro_rules | `(tactic| walk_at "o") => `(tactic| first
  | omega
  | assumption
  | (simp only [List.length_append, List.length_take, List.length_drop, List.length_cons, List.length_nil, List.length_singleton, List.length_map, List.length_range, Int.toNat_natCast] ; omega))
local macro_rules | `(tactic| walk_at "s") => `(tactic| first
  | (with_reducible refine i_seq ?_)
  | (with_reducible refine i_asg ?_)
  | ((with_reducible refine' i_var ?h1 ?_); (case h1 => rfl))
  | (with_reducible refine i_c ?_)
  | ((with_reducible refine' i_gname' ?h1 ?_); (case h1 => (simp only [List.set_cons_zero, List.set_cons_succ]; rfl)))
  | (with_reducible refine i_op ?_)
  | (with_reducible refine i_ifS ?_)
  | (with_reducible refine i_for ?_)
  | (with_reducible refine i_test ?_)
  | (with_reducible refine i_B ?_)
  | (with_reducible refine i_exbl ?_)
  | (with_reducible refine i_exint ?_)
  | (with_reducible refine i_cb ?_)
  | (with_reducible refine i_nil ?_)
  | (with_reducible refine i_cons ?_)
  | (with_reducible refine i_ret ?_)
  | (with_reducible refine i_sl ?_)
  | (with_reducible refine i_nopart ?_)
  | (with_reducible refine i_part ?_)
  | (with_reducible refine i_add_int ?_)
  | (with_reducible refine i_sub ?_)
  | (with_reducible refine i_lt ?_)
  | ((with_reducible refine' i_mod ?h1 ?_); (case h1 => walk_at "o"))
  | ((with_reducible refine' i_fdiv ?h1 ?_); (case h1 => (refine cdiv_small ?_ ?_ <;> walk_at "o")))
  | ((with_reducible refine' i_sl_to ?h1 ?h2 ?_); (case h1 => walk_at "o"); (case h2 => walk_at "o"))
  | ((with_reducible refine' i_sl_from ?h1 ?h2 ?_); (case h1 => walk_at "o"); (case h2 => walk_at "o"))
  | ((with_reducible refine' i_add_str ?h1 ?_); (case h1 => walk_at "o"))
  | ((with_reducible refine' i_mul_int ?h1 ?_); (case h1 => first | (refine mul_small ?_ ?_ <;> walk_at "o") | (refine mul_smallR ?_ ?_ <;> walk_at "o")))
  | (with_reducible refine i_le ?_)
  | (with_reducible refine i_gt ?_)
  | (with_reducible refine i_ge ?_)
  | (with_reducible refine i_eq_int ?_)
  | (with_reducible refine i_eq_str ?_)
  | (with_reducible refine i_ne_int ?_)
  | (with_reducible refine i_ne_str ?_)
  | (with_reducible refine i_eq_bl ?_)
  | (with_reducible refine i_ne_bl ?_)
  | (with_reducible refine i_in_sg ?_)
  | (with_reducible refine i_notIn_sg ?_)
  | (with_reducible refine i_call ?_)
  | (with_reducible refine i_callS ?_)
  | (with_reducible refine i_sp1 ?_)
  | (with_reducible refine i_sp2 ?_)
  | (with_reducible refine i_sp3 ?_)
  | (with_reducible refine i_sp4 ?_)
  | (with_reducible refine i_sp1' ?_)
  | (with_reducible refine i_sp2' ?_)
  | (with_reducible refine i_sp3' ?_)
  | ((with_reducible refine' i_ix_lst ?h1 ?h2 ?_); (case h1 => walk_at "sq"); (case h2 => first | exact atI_nat rfl | rfl))
  | ((with_reducible refine' i_ix_tup ?h1 ?h2 ?_); (case h1 => walk_at "st"); (case h2 => first | exact atI_nat rfl | rfl))
  | (with_reducible refine i_gsub ?_)
  | (with_reducible refine i_par ?_)
  | (with_reducible refine i_lstRg1 ?_)
  | (with_reducible refine i_app ?_)
  | (with_reducible refine i_par2 ?_)
  | ((with_reducible refine' i_aug ?h1 ?_); (case h1 => rfl))
  | (with_reducible refine i_ipI ?_)
  | ((with_reducible refine' i_gtup2 ?h1 ?_); (case h1 => walk_at "st"))
  | (with_reducible refine i_int_bl ?_)
  | (with_reducible refine i_raise ?_)
  | (with_reducible refine i_mkE ?_)
  | (with_reducible refine i_ex1 ?_)
  | (with_reducible refine i_and ?_)
  | (with_reducible refine i_or ?_)
  | (with_reducible refine i_not ?_)
  | (with_reducible refine i_tt ?_)
  | (with_reducible refine i_ff ?_)
  | (with_reducible refine i_nott ?_)
  | (with_reducible refine i_notf ?_)
  | (with_reducible refine i_andV ?_)
  | (with_reducible refine i_orV ?_)
  | (with_reducible refine i_notV ?_)
  | (with_reducible refine i_ifE ?_)
  | (with_reducible refine i_tup ?_)
  | (with_reducible refine i_lst ?_)
  | (with_reducible refine i_un ?_)
  | (with_reducible refine i_neg ?_)
  | (with_reducible refine i_chain ?_)
  | (with_reducible refine i_next ?_)
  | (with_reducible refine i_retN ?_)
  | (with_reducible refine i_drop ?_)
  | (with_reducible refine i_int_int ?_)
  | (with_reducible refine i_abs ?_)
  | (with_reducible refine i_m1c ?_)
  | (with_reducible refine i_is_non ?_)
  | (with_reducible refine i_is_int ?_)
  | (with_reducible refine i_is_bl ?_)
  | (with_reducible refine i_isn_bl ?_)
  | (with_reducible refine i_is_str ?_)
  | (with_reducible refine i_is_ref ?_)
  | (with_reducible refine i_isn_non ?_)
  | (with_reducible refine i_isn_int ?_)
  | (with_reducible refine i_isn_str ?_)
  | (with_reducible refine i_isn_ref ?_)
  | (with_reducible refine i_len_str ?h1 ?_; (case h1 => walk_at "o"))
  | (with_reducible refine i_callD ?_)
  | (with_reducible refine i_spD2 ?_)
  | (with_reducible refine i_spM1 ?_)
  | (with_reducible refine i_spM2 ?_)
  | (with_reducible refine i_spM3 ?_)
  | (with_reducible refine i_spM4 ?_)
  | (with_reducible refine i_spM3d ?_)
  | (with_reducible refine i_tfld ?_)
  | (with_reducible refine i_sfld ?_)
  | (with_reducible refine i_meth ?_)
  | (with_reducible refine i_make ?_)
  | (with_reducible refine i_spl ?_)
  | (with_reducible refine i_mkE2 ?_)
  | (with_reducible refine i_ex2 ?_)
  | (with_reducible refine i_dget ?_)
  | (with_reducible refine i_tru ?_)
  | (with_reducible refine i_dput ?_)
  | (with_reducible refine i_dnotin ?_)
  | (with_reducible refine i_din ?_)
  | (with_reducible refine i_isi_int_int ?_) | (with_reducible refine i_isi_int_bool ?_) | (with_reducible refine i_isi_int_str ?_) | (with_reducible refine i_isi_int_tuple ?_) | (with_reducible refine i_isi_int_list ?_)
  | (with_reducible refine i_isi_bl_int ?_) | (with_reducible refine i_isi_bl_bool ?_) | (with_reducible refine i_isi_bl_str ?_) | (with_reducible refine i_isi_bl_tuple ?_) | (with_reducible refine i_isi_bl_list ?_)
  | (with_reducible refine i_isi_str_int ?_) | (with_reducible refine i_isi_str_bool ?_) | (with_reducible refine i_isi_str_str ?_) | (with_reducible refine i_isi_str_tuple ?_) | (with_reducible refine i_isi_str_list ?_)
  | (with_reducible refine i_isi_non_int ?_) | (with_reducible refine i_isi_non_bool ?_) | (with_reducible refine i_isi_non_str ?_) | (with_reducible refine i_isi_non_tuple ?_) | (with_reducible refine i_isi_non_list ?_))
local macro_rules | `(tactic| walk_at "go") => `(tactic| (repeat' (walk_at "s")))
local macro_rules | `(tactic| walk_at "n") => `(tactic| simp only [wipe, List.map_cons, List.map_nil, List.set_cons_zero, List.set_cons_succ])
theorem fmD_flatD {f : Fm} {w : List Nat} {d : PyData} (h : fmD f w = some d) : flatD d = true := by
  cases f with
  | num =>
    have h' : (numW w).map PyData.int = some d := h
    cases e : numW w with
    | none => rw [e] at h'; cases h'
    | some v => rw [e] at h'; cases h'; rfl
  | lit =>
    have h' : (if ltL w then some (dS w) else none) = some d := h
    split at h'
    · cases h'; rfl
    · cases h'
  | sg =>
    have h' : (if sgL w then some (dS w) else none) = some d := h
    split at h'
    · cases h'; rfl
    · cases h'
theorem readFm_flatT {ws : List (List Nat)} : ∀ (fs : List Fm) (k : Nat) (r : List PyData), readFm ws k fs = .inl r → FlatT r
  | [], k, r, h => by
    have h' : (if k < ws.length then Sum.inr k else Sum.inl []) = (Sum.inl r : List PyData ⊕ Nat) := h
    split at h'
    · cases h'
    · cases h'; intro d hd; cases hd
  | f :: fs, k, r, h => by
    have h' : (if k < ws.length then
          (match fmD f (ws.getD k []) with
          | some d => (match readFm ws (k + 1) fs with | .inl r => .inl (d :: r) | .inr e => .inr e)
          | none => .inr k) else .inr ws.length) = (Sum.inl r : List PyData ⊕ Nat) := h
    split at h'
    · split at h'
      · rename_i d hd
        split at h'
        · rename_i r2 hr
          cases h'
          intro x hx
          rcases List.mem_cons.mp hx with rfl | hx
          · exact fmD_flatD hd
          · exact readFm_flatT fs (k + 1) r2 hr x hx
        · cases h'
      · cases h'
    · cases h'
theorem readLn_flatW {d : PyData} {es : List PyData} (h : readLn d = .inl es) : FlatW (.tuple es) := by
  cases d with
  | str z =>
    have h' : (match forms ((wordsOf z).getD 0 []) with
      | none => .inr 0
      | some fs => (match readFm (wordsOf z) 1 fs with | .inl r => .inl (dS ((wordsOf z).getD 0 []) :: r) | .inr e => .inr e)) = (Sum.inl es : List PyData ⊕ Nat) := h
    split at h'
    · cases h'
    · rename_i fs hf
      split at h'
      · rename_i r hr
        cases h'
        refine ⟨_, rfl, fun x hx => ?_⟩
        rcases List.mem_cons.mp hx with rfl | hx
        · rfl
        · exact readFm_flatT fs 1 r hr x hx
      · cases h'
  | _ => cases h
def combF (r : List PyData) : List PyData ⊕ Nat → List PyData ⊕ Nat
  | .inl x => .inl (r ++ x)
  | .inr e => .inr e
theorem num_val {w : List Nat} {v : Int} (h : numW w = some v) : intText? ⟨w.toArray⟩ = some v ∧ w.length ≤ 640 := by
  have hl := numW_L h
  obtain ⟨h1, h2, h3⟩ := num_one hl
  have h9 := (numL_digits hl).2.2.1
  by_cases z : 1 ≤ digitsVal w ∧ digitsVal w ≤ 9
  · have e := h2 z
    rw [h] at e
    cases e
    exact ⟨h1, by omega⟩
  · rw [h3 z] at h; cases h
section
variable {P : Program} {w : World} {K : PySem.W.Frag} {mg : Str → Option Value} {base : Heap} {C_GlimError C_BadLine C_BadWeather C_Lines : Addr}
def p_L_line_read : P1 := fun x H Q _ => ∃ A d, Same A H ∧ At A x d ∧ (match readLn d with
  | .inr e => ∀ G a, Same H G → H a = none → G a = some (.tup [.non, .int (e : Int)]) → Q (.ref a) G
  | .inl es => ∀ G a b xs, Same H G → H a = none → H b = none → a ≠ b → G b = some (.tup xs) → AtAll A xs es → G a = some (.tup [.ref b, .non]) → Q (.ref a) G)
theorem ok_L_line_read (T : Txt K mg C_GlimError C_BadLine C_BadWeather C_Lines) : OK P w K mg base CX0 2 "_law_line_read" ["_law_line_here"] (sp1  p_L_line_read) := by
  refine OK.mk (k := 1) T.d_L_line_read sc_L_line_read len1 fun f cdv A outer s H vs Q E hr h => ?_
  obtain ⟨x, rfl, h⟩ := h
  refine ⟨_, (pss_cons (ps_if (pt_not (pt_val (pe_callB (cIsi K) (by rfl) T.b_isinstance (by decide +kernel) (pa_cons (pv 0) (pa_cons (pe_bltn (v := .ty "str") (by rfl) T.b_str (by decide +kernel) rfl) pa_nil))))) (pss_one (ps_ret (pe_tup (pa_cons pe_non (pa_cons pe_int pa_nil))))) pss_nil) (pss_cons (ps_set (i := 1) sc_L_line_read.nd rfl (Or.inl rfl) (peSplit K (pv 0) (pa_cons (pe_S [32]) pa_nil))) (pss_cons (ps_set (i := 2) sc_L_line_read.nd rfl (Or.inl rfl) (pe_f (ok_L_forms (K := K) T) (hr.mono (by decide)) pass0 (pa_cons (pe_ix (ixK K) (pv 1) pe_int (fun _ _ => rfl)) pa_nil))) (pss_cons (ps_if (pt_cmpR op_isP (pv 2) pe_non (nomark _)) (pss_one (ps_ret (pe_tup (pa_cons pe_non (pa_cons pe_int pa_nil))))) pss_nil) (pss_cons (ps_set (i := 3) sc_L_line_read.nd rfl (Or.inl rfl) (pe_lst (pa_cons (pe_ix (ixK K) (pv 1) pe_int (fun _ _ => rfl)) pa_nil))) (pss_cons (ps_for PassesOwn.never rfl (pi_range1 rfl T.b_range (pa_cons (pe_callB (cLen K) (by rfl) T.b_len (by decide +kernel) (pa_cons (pv 2) pa_nil)) pa_nil)) (pg_name (i := 4) sc_L_line_read.nd rfl (Or.inl rfl)) (pss_cons (ps_if (pw_or (pt_cmpR (opEq K hr.units) (pe_op (opAdd K) (pv 4) pe_int) (pe_callB (cLen K) (by rfl) T.b_len (by decide +kernel) (pa_cons (pv 1) pa_nil)) (nomark _)) (pw_or1 (pt_not (pt_val (pe_f (ok_L_stands (K := K) T) (hr.mono (by decide)) pass0 (pa_cons (pe_ix (ixK K) (pv 2) (pv 4) (fun _ _ => rfl)) (pa_cons (pe_ix (ixK K) (pv 1) (pe_op (opAdd K) (pv 4) pe_int) (fun _ _ => rfl)) pa_nil))))))).pt (pss_one (ps_ret (pe_tup (pa_cons pe_non (pa_cons (pe_op (opAdd K) (pv 4) pe_int) pa_nil))))) pss_nil) (pss_one (ps_if (pt_cmpR (opEq K hr.units) (pe_ix (ixK K) (pv 2) (pv 4) (fun _ _ => rfl)) (pe_S [110, 117, 109, 98, 101, 114]) (nomark _)) (pss_one (ps_expr (peApp K (pv 3) (pa_cons (pe_callTy call_intTx (by rfl) T.b_int (by decide +kernel) (pa_cons (pe_ix (ixK K) (pv 1) (pe_op (opAdd K) (pv 4) pe_int) (fun _ _ => rfl)) pa_nil)) pa_nil)))) (pss_one (ps_expr (peApp K (pv 3) (pa_cons (pe_ix (ixK K) (pv 1) (pe_op (opAdd K) (pv 4) pe_int) (fun _ _ => rfl)) pa_nil)))))))) (pss_cons (ps_if (pt_cmpR op_gtP (pe_callB (cLen K) (by rfl) T.b_len (by decide +kernel) (pa_cons (pv 1) pa_nil)) (pe_callB (cLen K) (by rfl) T.b_len (by decide +kernel) (pa_cons (pv 3) pa_nil)) (nomark _)) (pss_one (ps_ret (pe_tup (pa_cons pe_non (pa_cons (pe_callB (cLen K) (by rfl) T.b_len (by decide +kernel) (pa_cons (pv 3) pa_nil)) pa_nil))))) pss_nil) (pss_one (ps_ret (pe_tup (pa_cons (pe_callTy (cTup K) (by rfl) T.b_tuple (by decide +kernel) (pa_cons (pv 3) pa_nil)) (pa_cons pe_non pa_nil)))))))))))), ?_⟩
  show (_ : TS) { nx := fun _ H' => Q .non H', rt := Q } [some x, none, none, none, none] H
  obtain ⟨A0, d, sa, hx, q⟩ := h
  have hxH := hx.same sa
  cases ed : isStrD d with
  | false =>
    have e0 : readLn d = .inr 0 := by
      cases d <;> first
        | rfl
        | cases ed
    rw [e0] at q
    walk_at "go"
    refine i_isiStr false hxH ed ?_
    walk_at "go"
    exact i_new (by show 2 ≤ 100000; omega) fun a na => q _ a (same_upd na) na upd_same
  | true =>
  obtain ⟨z, rfl⟩ : ∃ z, d = .str z := by
    cases d <;> first
      | exact ⟨_, rfl⟩
      | cases ed
  obtain ⟨l, rfl, rfl, hl⟩ := hx.strl
  walk_at "go"
  refine ⟨rfl, ?_⟩
  walk_at "go"
  refine ⟨⟨l.toArray⟩, ⟨#[32]⟩, rfl, rfl, rfl, ?_, ?_⟩
  · rw [str_len]
    exact Nat.le_trans (show l.length + 2 ≤ 100000 by omega) (by decide)
  intro wl nwl
  rw [words_V]
  have wp := words_pos ⟨l.toArray⟩
  have wm := words_many ⟨l.toArray⟩
  rw [str_len] at wm
  have wlen : ∀ w ∈ wordsOf ⟨l.toArray⟩, w.length ≤ 10000 := fun w hw => by
    have := words_len hw
    rw [str_len] at this
    omega
  have rl : readLn (.str ⟨l.toArray⟩) = (match forms ((wordsOf ⟨l.toArray⟩).getD 0 []) with
      | none => .inr 0
      | some fs => (match readFm (wordsOf ⟨l.toArray⟩) 1 fs with | .inl r => .inl (dS ((wordsOf ⟨l.toArray⟩).getD 0 []) :: r) | .inr e => .inr e)) := rfl
  generalize wordsOf ⟨l.toArray⟩ = ws at *
  generalize readLn (.str ⟨l.toArray⟩) = rd at *
  have g0 : ws[0]? = some (ws.getD 0 []) := by rw [List.getD_eq_getElem?_getD, List.getElem?_eq_getElem (by omega)]; rfl
  have w0l : (ws.getD 0 []).length ≤ 10000 := wlen _ (List.mem_of_getElem? g0)
  have s1 : Same H (upd H wl (.lst (ws.map S))) := same_upd nwl
  have hW : (upd H wl (.lst (ws.map S))) wl = some (.lst (ws.map S)) := upd_same
  generalize upd H wl (.lst (ws.map S)) = H1 at *
  have mapS : ∀ {i : Nat} {w : List Nat}, ws[i]? = some w → (ws.map S)[i]? = some (S w) := fun e => by rw [List.getElem?_map, e]; rfl
  generalize hw0 : ws.getD 0 [] = w0 at *
  walk_at "go"
  refine i_ix_lst (z := 0) (v := S w0) (.inl (.inl hW)) (atI_int (by decide) (mapS g0)) ?_
  walk_at "go"
  refine ⟨w0, rfl, ?_⟩
  cases ef : forms w0 with
  | none =>
    rw [ef] at rl
    rw [rl] at q
    walk_at "go"
    exact i_new (by show 2 ≤ 100000; omega) fun a na => q _ a (s1.trans (same_upd na)) (s1.free na) upd_same
  | some fs =>
  rw [ef] at rl
  intro fl nfl
  have s2 := s1.trans (same_upd (o := .lst ((fs.map fmT).map S)) nfl)
  have hW2 := same_upd (o := .lst ((fs.map fmT).map S)) nfl _ _ hW
  have hF2 : upd H1 fl (.lst ((fs.map fmT).map S)) fl = some (.lst ((fs.map fmT).map S)) := upd_same
  generalize upd H1 fl (.lst ((fs.map fmT).map S)) = H2 at *
  have fl2 := forms_len ef
  walk_at "go"
  refine i_ix_lst (z := 0) (v := S w0) (.inl (.inl hW2)) (atI_int (by decide) (mapS g0)) ?_
  walk_at "go"
  refine i_new (by show 1 ≤ 100000; omega) fun tl ntl => ?_
  have htl : H tl = none := s2.free ntl
  have hwt : wl ≠ tl := fun z => by rw [z, ntl] at hW2; cases hW2
  have hft : fl ≠ tl := fun z => by rw [z, ntl] at hF2; cases hF2
  have nlen : (fs.map fmT).map S = ((fs.map fmT).map S) := rfl
  have fz : ((fs.map fmT).map S).length = fs.length := by rw [List.length_map, List.length_map]
  have wz : (ws.map S).length = ws.length := List.length_map ..
  have rd0 : rd = combF [dS w0] (readFm ws (0 + 1) (fs.drop 0)) := by
    rw [rl]
    show (match readFm ws 1 fs with | .inl r => .inl (dS w0 :: r) | .inr e => .inr e) = combF [dS w0] (readFm ws 1 fs)
    cases readFm ws 1 fs <;> rfl
  have r1 : ∀ k f fs, readFm ws k (f :: fs) = if k < ws.length then
      (match fmD f (ws.getD k []) with
      | some d => (match readFm ws (k + 1) fs with | .inl r => .inl (d :: r) | .inr e => .inr e)
      | none => .inr k) else .inr ws.length := fun k f fs => rfl
  have hn2 : H2 tl = none := ntl
  walk_at "go"
  refine f_rng1 fs.length (fun R k => by walk_at "go"; exact i_len_lst (.inl (.inl (same_upd ntl _ _ hF2))) (by rw [fz]; exact k)) (by omega) (fun i σ G => ∃ v xs es, σ = [some (S l), some (.ref wl), some (.ref fl), some (.ref tl), v] ∧ Same H G ∧ G wl = some (.lst (ws.map S)) ∧ G fl = some (.lst ((fs.map fmT).map S)) ∧ G tl = some (.lst xs) ∧
    AtAll A0 xs es ∧ es.length = i + 1 ∧ i + 1 ≤ ws.length ∧ rd = combF es (readFm ws (i + 1) (fs.drop i))) ⟨none, [S w0], [dS w0], rfl, s2.trans (same_upd ntl), same_upd ntl _ _ hW2, same_upd ntl _ _ hF2, upd_same, .one (.str _ w0l), rfl, wp, rd0⟩ ?_ ?_
  · rintro i σ G hi ⟨v, xs0, es, rfl, sG, gw, gf, gt, al, el, iw, ri⟩
    show (_ : TS) _ [some (S l), some (.ref wl), some (.ref fl), some (.ref tl), some (.int (i : Int))] G
    have hf : fs[i]? = some fs[i] := List.getElem?_eq_getElem hi
    rw [List.drop_eq_getElem_cons hi] at ri
    generalize fs[i] = f at hf ri
    have hfS : ((fs.map fmT).map S)[i]? = some (S (fmT f)) := by rw [List.getElem?_map, List.getElem?_map, hf]; rfl
    rw [r1] at ri
    walk_at "go"
    refine i_len_lst (.inl (.inl gw)) ?_
    rw [wz]
    walk_at "go"
    refine i_dec (fun e1 => ?_) (fun e1 => ?_)
    · rw [if_neg (by omega)] at ri
      rw [ri] at q
      walk_at "go"
      refine i_new (by show 2 ≤ 100000; omega) fun a na => ?_
      refine q _ a (sG.trans (same_upd na)) (sG.free na) ?_
      rw [upd_same, e1]
    have hk : i + 1 < ws.length := by omega
    rw [if_pos hk] at ri
    have hw : ws[i + 1]? = some (ws.getD (i + 1) []) := by rw [List.getD_eq_getElem?_getD, List.getElem?_eq_getElem hk]; rfl
    have hwl := wlen _ (List.mem_of_getElem? hw)
    generalize ws.getD (i + 1) [] = w' at *
    have ixf : ∀ {G' : Hp} {R : VK}, G' fl = some (.lst ((fs.map fmT).map S)) → R (S (fmT f)) G' → ixP K (.ref fl) (.int (i : Int)) G' R := fun g k => i_ix_lst (.inl (.inl g)) (atI_nat hfS) k
    have ixw : ∀ {G' : Hp} {R : VK}, G' wl = some (.lst (ws.map S)) → R (S w') G' → ixP K (.ref wl) (.int ((i : Int) + 1)) G' R := fun g k => i_ix_lst (z := ((i + 1 : Nat) : Int)) (.inl (.inl g)) (atI_nat (mapS hw)) k
    walk_at "go"
    refine ixf gf ?_
    walk_at "go"
    refine ixw gw ?_
    walk_at "go"
    refine ⟨f, w', rfl, rfl, fun G2 s3 => ?_⟩
    have gw2 := s3 _ _ gw
    have gf2 := s3 _ _ gf
    have gt2 := s3 _ _ gt
    have sG2 := sG.trans s3
    cases ed2 : fmD f w' with
    | none =>
      simp only [ed2] at ri
      rw [ri] at q
      rw [Option.isSome_none]
      walk_at "go"
      refine i_new (by show 2 ≤ 100000; omega) fun a na => ?_
      exact q _ a (sG2.trans (same_upd na)) (sG2.free na) upd_same
    | some d =>
      simp only [ed2] at ri
      have ri2 : rd = combF (es ++ [d]) (readFm ws (i + 1 + 1) (fs.drop (i + 1))) := by
        rw [ri]
        cases readFm ws (i + 1 + 1) (fs.drop (i + 1)) with
        | inl r => show Sum.inl _ = Sum.inl _; rw [List.append_assoc]; rfl
        | inr e => rfl
      have fin : ∀ (v' : V), At A0 v' d → ∃ v xs es, ([some (S l), some (.ref wl), some (.ref fl), some (.ref tl), some (.int (i : Int))] : L2.St) = [some (S l), some (.ref wl), some (.ref fl), some (.ref tl), v] ∧ Same H (upd G2 tl (.lst (xs0 ++ [v']))) ∧
          (upd G2 tl (.lst (xs0 ++ [v']))) wl = some (.lst (ws.map S)) ∧ (upd G2 tl (.lst (xs0 ++ [v']))) fl = some (.lst ((fs.map fmT).map S)) ∧ (upd G2 tl (.lst (xs0 ++ [v']))) tl = some (.lst xs) ∧
          AtAll A0 xs es ∧ es.length = i + 1 + 1 ∧ i + 1 + 1 ≤ ws.length ∧ rd = combF es (readFm ws (i + 1 + 1) (fs.drop (i + 1))) := fun v' hv =>
        ⟨_, xs0 ++ [v'], es ++ [d], rfl, Same.upd sG2 htl, by rw [upd_ne hwt]; exact gw2, by rw [upd_ne hft]; exact gf2, upd_same, al.app (.one hv), by rw [List.length_append, el]; rfl, by omega, ri2⟩
      have xl := al.len
      rw [Option.isSome_some]
      walk_at "go"
      refine ixf gf2 ?_
      walk_at "go"
      refine i_dec (fun e3 => ?_) (fun e3 => ?_)
      · have ef3 : f = .num := by
          cases f with
          | num => rfl
          | lit => exact absurd e3 (by decide)
          | sg => exact absurd e3 (by decide)
        subst ef3
        have e4 : (numW w').map PyData.int = some d := ed2
        cases ev : numW w' with
        | none => rw [ev] at e4; cases e4
        | some vv =>
        rw [ev] at e4
        cases e4
        obtain ⟨t1, t2⟩ := num_val ev
        walk_at "go"
        refine i_appAt gt2 ?_
        walk_at "go"
        refine ixw gw2 ?_
        walk_at "go"
        refine ⟨_, _, rfl, t1, by rw [str_len]; exact t2, ?_⟩
        walk_at "go"
        exact i_appEnd gt2 (by omega) (fin _ (.int vv))
      · have hv : At A0 (S w') d := by
          cases f with
          | num => exact absurd rfl e3
          | lit =>
            have e4 : (if ltL w' then some (dS w') else none) = some d := ed2
            split at e4
            · cases e4; exact .str _ hwl
            · cases e4
          | sg =>
            have e4 : (if sgL w' then some (dS w') else none) = some d := ed2
            split at e4
            · cases e4; exact .str _ hwl
            · cases e4
        walk_at "go"
        refine i_appAt gt2 ?_
        walk_at "go"
        refine ixw gw2 ?_
        walk_at "go"
        exact i_appEnd gt2 (by omega) (fin _ hv)
  · rintro σ G ⟨v, xs, es, rfl, sG, gw, gf, gt, al, el, iw, ri⟩
    have xl := al.len
    rw [List.drop_length] at ri
    have ri : rd = combF es (if fs.length + 1 < ws.length then .inr (fs.length + 1) else .inl []) := ri
    walk_at "go"
    refine i_len_lst (.inl (.inl gw)) ?_
    walk_at "go"
    refine i_len_lst (.inl (.inl gt)) ?_
    rw [wz]
    walk_at "go"
    refine i_dec (fun e1 => ?_) (fun e1 => ?_)
    · rw [if_pos (by omega)] at ri
      rw [ri] at q
      walk_at "go"
      refine i_len_lst (.inl (.inl gt)) ?_
      walk_at "go"
      refine i_new (by show 2 ≤ 100000; omega) fun a na => ?_
      refine q _ a (sG.trans (same_upd na)) (sG.free na) ?_
      rw [upd_same, xl, el]
    · rw [if_neg (by omega)] at ri
      have ri : rd = .inl es := by rw [ri]; show Sum.inl (es ++ []) = _; rw [List.append_nil]
      rw [ri] at q
      walk_at "go"
      refine i_tuple_lst (.inl (.inl gt)) fun b nb => ?_
      walk_at "go"
      refine i_new (by show 2 ≤ 100000; omega) fun a na => ?_
      have nb' : H b = none := sG.free nb
      have s4 := sG.trans (same_upd (o := .tup xs) nb)
      have nba : a ≠ b := fun z => by rw [z, upd_same] at na; cases na
      exact q _ a b xs (s4.trans (same_upd na)) (s4.free na) nb' nba (by rw [upd_ne nba.symm, upd_same]) al upd_same
end
end K12
namespace K12
open PySem PySem.Spec PyProof.Rows L2 Fg
local macro_rules | `(tactic| walk_at "sq") => `(tactic| first
  | assumption
  | exact .inl (.inl (by assumption))
  | exact .inl (.inl upd_same))
local macro_rules | `(tactic| walk_at "st") => `(tactic| first
  | assumption
  | exact .inl (.inl (by assumption))
  | exact .inl (.inl upd_same))
local macro_rules | `(tactic| walk_at "o") => `(tactic| first
  | omega
  | assumption
  | (simp only [List.length_append, List.length_take, List.length_drop, List.length_cons, List.length_nil, List.length_singleton, List.length_map, List.length_range, Int.toNat_natCast] ; omega))
local macro_rules | `(tactic| walk_at "s") => `(tactic| first
  | (with_reducible refine i_seq ?_)
  | (with_reducible refine i_asg ?_)
  | ((with_reducible refine' i_var ?h1 ?_); (case h1 => rfl))
  | (with_reducible refine i_c ?_)
  | ((with_reducible refine' i_gname' ?h1 ?_); (case h1 => (simp only [List.set_cons_zero, List.set_cons_succ]; rfl)))
  | (with_reducible refine i_op ?_)
  | (with_reducible refine i_ifS ?_)
  | (with_reducible refine i_for ?_)
  | (with_reducible refine i_test ?_)
  | (with_reducible refine i_B ?_)
  | (with_reducible refine i_exbl ?_)
  | (with_reducible refine i_exint ?_)
  | (with_reducible refine i_cb ?_)
  | (with_reducible refine i_nil ?_)
  | (with_reducible refine i_cons ?_)
  | (with_reducible refine i_ret ?_)
  | (with_reducible refine i_sl ?_)
  | (with_reducible refine i_nopart ?_)
  | (with_reducible refine i_part ?_)
  | (with_reducible refine i_add_int ?_)
  | (with_reducible refine i_sub ?_)
  | (with_reducible refine i_lt ?_)
  | ((with_reducible refine' i_mod ?h1 ?_); (case h1 => walk_at "o"))
  | ((with_reducible refine' i_fdiv ?h1 ?_); (case h1 => (refine cdiv_small ?_ ?_ <;> walk_at "o")))
  | ((with_reducible refine' i_sl_to ?h1 ?h2 ?_); (case h1 => walk_at "o"); (case h2 => walk_at "o"))
  | ((with_reducible refine' i_sl_from ?h1 ?h2 ?_); (case h1 => walk_at "o"); (case h2 => walk_at "o"))
  | ((with_reducible refine' i_add_str ?h1 ?_); (case h1 => walk_at "o"))
  | ((with_reducible refine' i_mul_int ?h1 ?_); (case h1 => first | (refine mul_small ?_ ?_ <;> walk_at "o") | (refine mul_smallR ?_ ?_ <;> walk_at "o")))
  | (with_reducible refine i_le ?_)
  | (with_reducible refine i_gt ?_)
  | (with_reducible refine i_ge ?_)
  | (with_reducible refine i_eq_int ?_)
  | (with_reducible refine i_eq_str ?_)
  | (with_reducible refine i_ne_int ?_)
  | (with_reducible refine i_ne_str ?_)
  | (with_reducible refine i_eq_bl ?_)
  | (with_reducible refine i_ne_bl ?_)
  | (with_reducible refine i_in_sg ?_)
  | (with_reducible refine i_notIn_sg ?_)
  | (with_reducible refine i_call ?_)
  | (with_reducible refine i_callS ?_)
  | (with_reducible refine i_sp1 ?_)
  | (with_reducible refine i_sp2 ?_)
  | (with_reducible refine i_sp3 ?_)
  | (with_reducible refine i_sp4 ?_)
  | (with_reducible refine i_sp1' ?_)
  | (with_reducible refine i_sp2' ?_)
  | (with_reducible refine i_sp3' ?_)
  | ((with_reducible refine' i_ix_lst ?h1 ?h2 ?_); (case h1 => walk_at "sq"); (case h2 => first | exact atI_nat rfl | rfl))
  | ((with_reducible refine' i_ix_tup ?h1 ?h2 ?_); (case h1 => walk_at "st"); (case h2 => first | exact atI_nat rfl | rfl))
  | (with_reducible refine i_gsub ?_)
  | (with_reducible refine i_par ?_)
  | (with_reducible refine i_lstRg1 ?_)
  | (with_reducible refine i_app ?_)
  | (with_reducible refine i_par2 ?_)
  | ((with_reducible refine' i_aug ?h1 ?_); (case h1 => rfl))
  | (with_reducible refine i_ipI ?_)
  | ((with_reducible refine' i_gtup2 ?h1 ?_); (case h1 => walk_at "st"))
  | (with_reducible refine i_int_bl ?_)
  | (with_reducible refine i_raise ?_)
  | (with_reducible refine i_mkE ?_)
  | (with_reducible refine i_ex1 ?_)
  | (with_reducible refine i_and ?_)
  | (with_reducible refine i_or ?_)
  | (with_reducible refine i_not ?_)
  | (with_reducible refine i_tt ?_)
  | (with_reducible refine i_ff ?_)
  | (with_reducible refine i_nott ?_)
  | (with_reducible refine i_notf ?_)
  | (with_reducible refine i_andV ?_)
  | (with_reducible refine i_orV ?_)
  | (with_reducible refine i_notV ?_)
  | (with_reducible refine i_ifE ?_)
  | (with_reducible refine i_tup ?_)
  | (with_reducible refine i_lst ?_)
  | (with_reducible refine i_un ?_)
  | (with_reducible refine i_neg ?_)
  | (with_reducible refine i_chain ?_)
  | (with_reducible refine i_next ?_)
  | (with_reducible refine i_retN ?_)
  | (with_reducible refine i_drop ?_)
  | (with_reducible refine i_int_int ?_)
  | (with_reducible refine i_abs ?_)
  | (with_reducible refine i_m1c ?_)
  | (with_reducible refine i_is_non ?_)
  | (with_reducible refine i_is_int ?_)
  | (with_reducible refine i_is_bl ?_)
  | (with_reducible refine i_isn_bl ?_)
  | (with_reducible refine i_is_str ?_)
  | (with_reducible refine i_is_ref ?_)
  | (with_reducible refine i_isn_non ?_)
  | (with_reducible refine i_isn_int ?_)
  | (with_reducible refine i_isn_str ?_)
  | (with_reducible refine i_isn_ref ?_)
  | (with_reducible refine i_len_str ?h1 ?_; (case h1 => walk_at "o"))
  | (with_reducible refine i_callD ?_)
  | (with_reducible refine i_spD2 ?_)
  | (with_reducible refine i_spM1 ?_)
  | (with_reducible refine i_spM2 ?_)
  | (with_reducible refine i_spM3 ?_)
  | (with_reducible refine i_spM4 ?_)
  | (with_reducible refine i_spM3d ?_)
  | (with_reducible refine i_tfld ?_)
  | (with_reducible refine i_sfld ?_)
  | (with_reducible refine i_meth ?_)
  | (with_reducible refine i_make ?_)
  | (with_reducible refine i_spl ?_)
  | (with_reducible refine i_mkE2 ?_)
  | (with_reducible refine i_ex2 ?_)
  | (with_reducible refine i_dget ?_)
  | (with_reducible refine i_tru ?_)
  | (with_reducible refine i_dput ?_)
  | (with_reducible refine i_dnotin ?_)
  | (with_reducible refine i_din ?_)
  | (with_reducible refine i_isi_int_int ?_) | (with_reducible refine i_isi_int_bool ?_) | (with_reducible refine i_isi_int_str ?_) | (with_reducible refine i_isi_int_tuple ?_) | (with_reducible refine i_isi_int_list ?_)
  | (with_reducible refine i_isi_bl_int ?_) | (with_reducible refine i_isi_bl_bool ?_) | (with_reducible refine i_isi_bl_str ?_) | (with_reducible refine i_isi_bl_tuple ?_) | (with_reducible refine i_isi_bl_list ?_)
  | (with_reducible refine i_isi_str_int ?_) | (with_reducible refine i_isi_str_bool ?_) | (with_reducible refine i_isi_str_str ?_) | (with_reducible refine i_isi_str_tuple ?_) | (with_reducible refine i_isi_str_list ?_)
  | (with_reducible refine i_isi_non_int ?_) | (with_reducible refine i_isi_non_bool ?_) | (with_reducible refine i_isi_non_str ?_) | (with_reducible refine i_isi_non_tuple ?_) | (with_reducible refine i_isi_non_list ?_))
local macro_rules | `(tactic| walk_at "go") => `(tactic| (repeat' (walk_at "s")))
local macro_rules | `(tactic| walk_at "n") => `(tactic| simp only [wipe, List.map_cons, List.map_nil, List.set_cons_zero, List.set_cons_succ])
abbrev cLine : List Nat := [108, 105, 110, 101]
abbrev cWea : List Nat := [119, 101, 97, 116, 104, 101, 114]
abbrev cRead : List Nat := [114, 101, 97, 100]
abbrev cLines : List Nat := [108, 105, 110, 101, 115]
/-- what is due, given the reading -/
def dueA : List PyData ⊕ (Nat × Nat) → PyData
  | .inr (n, e) => .tuple [dS cLine, .int (n : Int), .int (e : Int)]
  | .inl ws => match badW (.tuple ws) with
    | some k => .tuple [dS cWea, .int k]
    | none => .tuple [dS cRead, .tuple ws]
def dueD (ds : List PyData) : PyData := dueA (readAll ds 0)
section
variable {P : Program} {w : World} {K : PySem.W.Frag} {mg : Str → Option Value} {base : Heap} {C_GlimError C_BadLine C_BadWeather C_Lines : Addr}
def p_L_due : P1 := fun x H Q _ => ∃ A ds, Same A H ∧ At A x (.list ds) ∧ ∀ A' H' v, Ext A H A' H' → At A' v (dueD ds) → Q v H'
theorem ok_L_due (T : Txt K mg C_GlimError C_BadLine C_BadWeather C_Lines) : OK P w K mg base CX0 4 "_law_due" ["_law_lines"] (sp1  p_L_due) := by
  refine OK.mk (k := 3) T.d_L_due sc_L_due len1 fun f cdv A outer s H vs Q E hr h => ?_
  obtain ⟨x, rfl, h⟩ := h
  refine ⟨_, (pss_cons (ps_set (i := 1) sc_L_due.nd rfl (Or.inl rfl) (pe_lst pa_nil)) (pss_cons (ps_for PassesOwn.never rfl (pi_range1 rfl T.b_range (pa_cons (pe_callB (cLen K) (by rfl) T.b_len (by decide +kernel) (pa_cons (pv 0) pa_nil)) pa_nil)) (pg_name (i := 2) sc_L_due.nd rfl (Or.inl rfl)) (pss_cons (ps_asg (pe_f (ok_L_line_read (K := K) T) (hr.mono (by decide)) pass0 (pa_cons (pe_ix (ixK K) (pv 0) (pv 2) (fun _ _ => rfl)) pa_nil)) (pgTup (n := 2) K rfl (pgs_cons (pg_name (i := 3) sc_L_due.nd rfl (Or.inl rfl)) (pgs_cons (pg_name (i := 4) sc_L_due.nd rfl (Or.inl rfl)) pgs_nil)))) (pss_cons (ps_if (pt_cmpR op_isP (pv 3) pe_non (nomark _)) (pss_one (ps_ret (pe_tup (pa_cons (pe_S [108, 105, 110, 101]) (pa_cons (pv 2) (pa_cons (pv 4) pa_nil)))))) pss_nil) (pss_one (ps_expr (peApp K (pv 1) (pa_cons (pv 3) pa_nil))))))) (pss_cons (ps_set (i := 5) sc_L_due.nd rfl (Or.inl rfl) (pe_f (ok_L_bad (K := K) T) (hr.mono (by decide)) pass0 (pa_cons (pv 1) pa_nil))) (pss_cons (ps_if (pt_cmpR op_isNotP (pv 5) pe_non (nomark _)) (pss_one (ps_ret (pe_tup (pa_cons (pe_S [119, 101, 97, 116, 104, 101, 114]) (pa_cons (pv 5) pa_nil))))) pss_nil) (pss_one (ps_ret (pe_tup (pa_cons (pe_S [114, 101, 97, 100]) (pa_cons (pe_callTy (cTup K) (by rfl) T.b_tuple (by decide +kernel) (pa_cons (pv 1) pa_nil)) pa_nil))))))))), ?_⟩
  show (_ : TS) { nx := fun _ H' => Q .non H', rt := Q } [some x, none, none, none, none, none] H
  obtain ⟨A0, ds, sa, hx, q⟩ := h
  obtain ⟨a, xs0, rfl, hA, hl, al0⟩ := hx.listed
  have hH := sa _ _ hA
  have ll := al0.len
  unfold dueD at q
  walk_at "go"
  refine i_new (by show 0 ≤ 100000; omega) fun tl ntl => ?_
  have atl : A0 tl = none := sa.free ntl
  have hat : a ≠ tl := fun z => by rw [z, ntl] at hH; cases hH
  walk_at "go"
  refine f_rng1 xs0.length (fun R k => by walk_at "go"; exact i_len_lst (.inl (.inl (same_upd ntl _ _ hH))) k) (by omega) (fun i σ G => ∃ v2 v3 v4 xs ws A', σ = [some (.ref a), some (.ref tl), v2, v3, v4, none] ∧ Ext A0 H A' G ∧ A' tl = none ∧ G tl = some (.lst xs) ∧
    AtAll A' xs ws ∧ ws.length = i ∧ (∀ w ∈ ws, FlatW w) ∧ readAll ds 0 = comb ws (readAll (ds.drop i) i)) ⟨none, none, none, [], [], A0, rfl, (Ext.refl sa).hid ntl, atl, upd_same, .nil, rfl, fun w h => absurd h (by simp), ?_⟩ ?_ ?_
  · show readAll ds 0 = comb [] (readAll ds 0)
    cases readAll ds 0 <;> rfl
  · rintro i σ G hi ⟨v2, v3, v4, xs, ws, A1, rfl, x1, n1, gt, al, wl, fw, ra⟩
    show (_ : TS) _ [some (.ref a), some (.ref tl), some (.int (i : Int)), v3, v4, none] G
    have hd : ds[i]? = some ds[i] := List.getElem?_eq_getElem (by omega)
    generalize ds[i] = d at hd
    obtain ⟨vd, hvd, ad⟩ := al0.at hd
    have gH := x1.gg _ _ hH
    walk_at "go"
    refine i_ix_lst (v := vd) (.inl (.inl gH)) (atI_nat hvd) ?_
    walk_at "go"
    refine ⟨A1, d, x1.ag, x1.old ad, ?_⟩
    cases er : readLn d with
    | inr e =>
      intro G2 b s2 nb gb
      rw [readAll_bad ra hd er] at q
      have x2 : Ext A0 H A1 G2 := ⟨x1.aa, x1.ag.trans s2, x1.gg.trans s2, x1.nw⟩
      walk_at "go"
      refine i_new (by show 3 ≤ 100000; omega) fun r nr => ?_
      exact q _ _ _ (x2.new nr) (At.mkTup upd_same (.cons (.str _ (by decide)) (.cons (.int _) (.one (.int _)))) (by show 3 ≤ 10000; decide))
    | inl es =>
      intro G2 b c ys s2 nb nc nbc gc alc gb
      have ac : A1 c = none := x1.ag.free nc
      have ntc : tl ≠ c := fun z => by rw [z, nc] at gt; cases gt
      have x2 : Ext A0 H (upd A1 c (.tup ys)) G2 := by
        refine x1.trans ⟨same_upd ac, fun p o e => ?_, s2, fun p h1 h2 => ?_⟩
        · by_cases hp : p = c
          · rw [hp, upd_same] at e
            rw [hp, gc]; exact e
          · rw [upd_ne hp] at e
            exact s2 _ _ (x1.ag _ _ e)
        · by_cases hp : p = c
          · rw [hp]; exact nc
          · rw [upd_ne hp] at h2
            exact absurd h1 h2
      have n2 : (upd A1 c (.tup ys)) tl = none := by rw [upd_ne ntc]; exact n1
      have gt2 := s2 _ _ gt
      have xl := al.len
      walk_at "go"
      refine i_appAt gt2 ?_
      walk_at "go"
      refine i_appEnd gt2 (by omega) ?_
      refine ⟨_, _, _, xs ++ [.ref c], ws ++ [.tuple es], _, rfl, x2.put ntl n2, n2, upd_same, (al.same (same_upd ac)).app (.one (At.mkTup upd_same (alc.same (same_upd ac)) (Nat.le_trans (readLn_len er) (by decide)))), by rw [List.length_append, wl]; rfl, fun w hw => ?_, readAll_turn ra hd er⟩
      rcases List.mem_append.mp hw with h | h
      · exact fw w h
      · rw [List.mem_singleton.mp h]; exact readLn_flatW er
  · rintro σ G ⟨v2, v3, v4, xs, ws, A1, rfl, x1, n1, gt, al, wl, fw, ra⟩
    have e2 : readAll ds 0 = .inl ws := by
      rw [ra, ll, List.drop_length]
      show Sum.inl (ws ++ []) = _
      rw [List.append_nil]
    rw [e2] at q
    have q : ∀ A' H' v, Ext A0 H A' H' → At A' v (match badW (.tuple ws) with | some k => .tuple [dS cWea, .int k] | none => .tuple [dS cRead, .tuple ws]) → Q v H' := q
    have gl : At (upd A1 tl (.lst xs)) (.ref tl) (.list ws) := At.mkLst upd_same (al.same (same_upd n1)) (by omega)
    have x2 := x1.show ntl sa gt
    walk_at "go"
    refine ⟨ws, gl.same x2.ag, fw, fun G2 s2 => ?_⟩
    have x3 : Ext A0 H (upd A1 tl (.lst xs)) G2 := ⟨x2.aa, x2.ag.trans s2, x2.gg.trans s2, x2.nw⟩
    rw [badL_W]
    cases eb : badW (.tuple ws) with
    | some k =>
      rw [eb] at q
      have q : ∀ A' H' v, Ext A0 H A' H' → At A' v (.tuple [dS cWea, .int k]) → Q v H' := q
      unfold optV
      walk_at "go"
      refine i_new (by show 2 ≤ 100000; omega) fun r nr => ?_
      exact q _ _ _ (x3.new nr) (At.mkTup upd_same (.cons (.str _ (by decide)) (.one (.int _))) (by show 2 ≤ 10000; decide))
    | none =>
      rw [eb] at q
      have q : ∀ A' H' v, Ext A0 H A' H' → At A' v (.tuple [dS cRead, .tuple ws]) → Q v H' := q
      unfold optV
      have gt2 := s2 _ _ gt
      walk_at "go"
      refine i_tuple_lst (.inl (.inl gt2)) fun t nt => ?_
      have x4 := x3.new (o := .tup xs) nt
      have nA : (upd A1 tl (.lst xs)) t = none := x3.ag.free nt
      have at4 : At (upd (upd A1 tl (.lst xs)) t (.tup xs)) (.ref t) (.tuple ws) := At.mkTup upd_same ((al.same (same_upd n1)).same (same_upd nA)) (by omega)
      walk_at "go"
      refine i_new (by show 2 ≤ 100000; omega) fun r nr => ?_
      have nr4 := x4.ag.free nr
      exact q _ _ _ (x4.new nr) (At.mkTup upd_same (.cons (.str _ (by decide)) (.one (at4.same (same_upd nr4)))) (by show 2 ≤ 10000; decide))
end
end K12
namespace K12
open PySem PySem.Spec PyProof.Rows L2 Fg
local macro_rules | `(tactic| walk_at "sq") => `(tactic| first
  | assumption
  | exact .inl (.inl (by assumption))
  | exact .inl (.inl upd_same))
local macro_rules | `(tactic| walk_at "st") => `(tactic| first
  | assumption
  | exact .inl (.inl (by assumption))
  | exact .inl (.inl upd_same))
local macro_rules | `(tactic| walk_at "o") => `(tactic| first
  | omega
  | assumption
  | (simp only [List.length_append, List.length_take, List.length_drop, List.length_cons, List.length_nil, List.length_singleton, List.length_map, List.length_range, Int.toNat_natCast] ; omega))
local macro_rules | `(tactic| walk_at "s") => `(tactic| first
  | (with_reducible refine i_seq ?_)
  | (with_reducible refine i_asg ?_)
  | ((with_reducible refine' i_var ?h1 ?_); (case h1 => rfl))
  | (with_reducible refine i_c ?_)
  | ((with_reducible refine' i_gname' ?h1 ?_); (case h1 => (simp only [List.set_cons_zero, List.set_cons_succ]; rfl)))
  | (with_reducible refine i_op ?_)
  | (with_reducible refine i_ifS ?_)
  | (with_reducible refine i_for ?_)
  | (with_reducible refine i_test ?_)
  | (with_reducible refine i_B ?_)
  | (with_reducible refine i_exbl ?_)
  | (with_reducible refine i_exint ?_)
  | (with_reducible refine i_cb ?_)
  | (with_reducible refine i_nil ?_)
  | (with_reducible refine i_cons ?_)
  | (with_reducible refine i_ret ?_)
  | (with_reducible refine i_sl ?_)
  | (with_reducible refine i_nopart ?_)
  | (with_reducible refine i_part ?_)
  | (with_reducible refine i_add_int ?_)
  | (with_reducible refine i_sub ?_)
  | (with_reducible refine i_lt ?_)
  | ((with_reducible refine' i_mod ?h1 ?_); (case h1 => walk_at "o"))
  | ((with_reducible refine' i_fdiv ?h1 ?_); (case h1 => (refine cdiv_small ?_ ?_ <;> walk_at "o")))
  | ((with_reducible refine' i_sl_to ?h1 ?h2 ?_); (case h1 => walk_at "o"); (case h2 => walk_at "o"))
  | ((with_reducible refine' i_sl_from ?h1 ?h2 ?_); (case h1 => walk_at "o"); (case h2 => walk_at "o"))
  | ((with_reducible refine' i_add_str ?h1 ?_); (case h1 => walk_at "o"))
  | ((with_reducible refine' i_mul_int ?h1 ?_); (case h1 => first | (refine mul_small ?_ ?_ <;> walk_at "o") | (refine mul_smallR ?_ ?_ <;> walk_at "o")))
  | (with_reducible refine i_le ?_)
  | (with_reducible refine i_gt ?_)
  | (with_reducible refine i_ge ?_)
  | (with_reducible refine i_eq_int ?_)
  | (with_reducible refine i_eq_str ?_)
  | (with_reducible refine i_ne_int ?_)
  | (with_reducible refine i_ne_str ?_)
  | (with_reducible refine i_eq_bl ?_)
  | (with_reducible refine i_ne_bl ?_)
  | (with_reducible refine i_in_sg ?_)
  | (with_reducible refine i_notIn_sg ?_)
  | (with_reducible refine i_call ?_)
  | (with_reducible refine i_callS ?_)
  | (with_reducible refine i_sp1 ?_)
  | (with_reducible refine i_sp2 ?_)
  | (with_reducible refine i_sp3 ?_)
  | (with_reducible refine i_sp4 ?_)
  | (with_reducible refine i_sp1' ?_)
  | (with_reducible refine i_sp2' ?_)
  | (with_reducible refine i_sp3' ?_)
  | ((with_reducible refine' i_ix_lst ?h1 ?h2 ?_); (case h1 => walk_at "sq"); (case h2 => first | exact atI_nat rfl | rfl))
  | ((with_reducible refine' i_ix_tup ?h1 ?h2 ?_); (case h1 => walk_at "st"); (case h2 => first | exact atI_nat rfl | rfl))
  | (with_reducible refine i_gsub ?_)
  | (with_reducible refine i_par ?_)
  | (with_reducible refine i_lstRg1 ?_)
  | (with_reducible refine i_app ?_)
  | (with_reducible refine i_par2 ?_)
  | ((with_reducible refine' i_aug ?h1 ?_); (case h1 => rfl))
  | (with_reducible refine i_ipI ?_)
  | ((with_reducible refine' i_gtup2 ?h1 ?_); (case h1 => walk_at "st"))
  | (with_reducible refine i_int_bl ?_)
  | (with_reducible refine i_raise ?_)
  | (with_reducible refine i_mkE ?_)
  | (with_reducible refine i_ex1 ?_)
  | (with_reducible refine i_and ?_)
  | (with_reducible refine i_or ?_)
  | (with_reducible refine i_not ?_)
  | (with_reducible refine i_tt ?_)
  | (with_reducible refine i_ff ?_)
  | (with_reducible refine i_nott ?_)
  | (with_reducible refine i_notf ?_)
  | (with_reducible refine i_andV ?_)
  | (with_reducible refine i_orV ?_)
  | (with_reducible refine i_notV ?_)
  | (with_reducible refine i_ifE ?_)
  | (with_reducible refine i_tup ?_)
  | (with_reducible refine i_lst ?_)
  | (with_reducible refine i_un ?_)
  | (with_reducible refine i_neg ?_)
  | (with_reducible refine i_chain ?_)
  | (with_reducible refine i_next ?_)
  | (with_reducible refine i_retN ?_)
  | (with_reducible refine i_drop ?_)
  | (with_reducible refine i_int_int ?_)
  | (with_reducible refine i_abs ?_)
  | (with_reducible refine i_m1c ?_)
  | (with_reducible refine i_is_non ?_)
  | (with_reducible refine i_is_int ?_)
  | (with_reducible refine i_is_bl ?_)
  | (with_reducible refine i_isn_bl ?_)
  | (with_reducible refine i_is_str ?_)
  | (with_reducible refine i_is_ref ?_)
  | (with_reducible refine i_isn_non ?_)
  | (with_reducible refine i_isn_int ?_)
  | (with_reducible refine i_isn_str ?_)
  | (with_reducible refine i_isn_ref ?_)
  | (with_reducible refine i_len_str ?h1 ?_; (case h1 => walk_at "o"))
  | (with_reducible refine i_callD ?_)
  | (with_reducible refine i_spD2 ?_)
  | (with_reducible refine i_spM1 ?_)
  | (with_reducible refine i_spM2 ?_)
  | (with_reducible refine i_spM3 ?_)
  | (with_reducible refine i_spM4 ?_)
  | (with_reducible refine i_spM3d ?_)
  | (with_reducible refine i_tfld ?_)
  | (with_reducible refine i_sfld ?_)
  | (with_reducible refine i_meth ?_)
  | (with_reducible refine i_make ?_)
  | (with_reducible refine i_spl ?_)
  | (with_reducible refine i_mkE2 ?_)
  | (with_reducible refine i_ex2 ?_)
  | (with_reducible refine i_dget ?_)
  | (with_reducible refine i_tru ?_)
  | (with_reducible refine i_dput ?_)
  | (with_reducible refine i_dnotin ?_)
  | (with_reducible refine i_din ?_)
  | (with_reducible refine i_isi_int_int ?_) | (with_reducible refine i_isi_int_bool ?_) | (with_reducible refine i_isi_int_str ?_) | (with_reducible refine i_isi_int_tuple ?_) | (with_reducible refine i_isi_int_list ?_)
  | (with_reducible refine i_isi_bl_int ?_) | (with_reducible refine i_isi_bl_bool ?_) | (with_reducible refine i_isi_bl_str ?_) | (with_reducible refine i_isi_bl_tuple ?_) | (with_reducible refine i_isi_bl_list ?_)
  | (with_reducible refine i_isi_str_int ?_) | (with_reducible refine i_isi_str_bool ?_) | (with_reducible refine i_isi_str_str ?_) | (with_reducible refine i_isi_str_tuple ?_) | (with_reducible refine i_isi_str_list ?_)
  | (with_reducible refine i_isi_non_int ?_) | (with_reducible refine i_isi_non_bool ?_) | (with_reducible refine i_isi_non_str ?_) | (with_reducible refine i_isi_non_tuple ?_) | (with_reducible refine i_isi_non_list ?_))
local macro_rules | `(tactic| walk_at "go") => `(tactic| (repeat' (walk_at "s")))
local macro_rules | `(tactic| walk_at "n") => `(tactic| simp only [wipe, List.map_cons, List.map_nil, List.set_cons_zero, List.set_cons_succ])
/-! ### what the law hears -/
/-- the answer to a list or tuple of weathers -/
def writD : PyData → PyData
  | d => match badW (deepD d) with
    | some k => .tuple [dS cWea, .int k]
    | none => match deepD d with
      | .tuple ds => .tuple [dS cLines, .tuple (ds.map fun w => dS (lineW w))]
      | _ => .none
def readD (d : PyData) : PyData := match seqOf d with
  | none => .tuple [dS cLine, .int 0, .int 0]
  | some ds => dueD ds
theorem i_xfG {σ : L2.St} {H : Hp} {Q : VK} {a dd C : Addr} {fs : List (Str × V)} {v : V} {i : Nat} {f : Str} (h : σ[i]? = some (some (.ref a))) (hdd : H dd = some (.xd fs)) (l : fs.lookup f = some v) (q : Q v H) : tXf a (.ref C) (some dd) C f (tVar i) σ H Q := ⟨.ref a, h, rfl, rfl, dd, _, v, rfl, hdd, l, q⟩
theorem lk_word (w l : V) : ([("word", w), ("line", l)] : List (Str × V)).lookup ("word" : Str) = some w := by simp [List.lookup]
theorem lk_line (w l : V) : ([("word", w), ("line", l)] : List (Str × V)).lookup ("line" : Str) = some l := by
  have h : (("line" : Str) == "word") = false := by decide +kernel
  simp [List.lookup, h]
section
variable {P : Program} {w : World} {K : PySem.W.Frag} {mg : Str → Option Value} {base : Heap} {C_GlimError C_BadLine C_BadWeather C_Lines : Addr}
def p_L_written : P1 := fun x H Q _ => ∃ A d, Same A H ∧ At A x d ∧ d.depth < 6 ∧ ∀ A' H' v, Ext A H A' H' → At A' v (writD d) → Q v H'
theorem ok_L_written (T : Txt K mg C_GlimError C_BadLine C_BadWeather C_Lines) : OK P w K mg base CX0 10 "_law_written" ["_law_weathers"] (sp1  p_L_written) := by
  refine OK.mk (k := 9) T.d_L_written sc_L_written len1 fun f cdv A outer s H vs Q E hr h => ?_
  obtain ⟨x, rfl, h⟩ := h
  refine ⟨_, (pss_cons (ps_try_as (i := 1) rfl rfl sc_L_written.nd rfl rfl ⟨rfl, by decide, Or.inl T.c_GlimError⟩ takes0 (fun W pn xe tk _ => (pss_one (ps_ret (pe_tup (pa_cons (pe_S [108, 105, 110, 101, 115]) (pa_cons (pe_fS (ok_write_weathers (K := K) T) (hr.mono (by decide)) (fun σ => passAt tk σ) (pa_cons (pv 0) pa_nil)) pa_nil)))))) (fun a oe cls d pn hz hf => (pss_one (ps_if (pw_and (pt_val (pe_callB (cIsX K hz hf) (by rfl) T.b_isinstance (by decide +kernel) (pa_cons (pv 1) (pa_cons (pe_gR _ T.c_BadWeather) pa_nil)))) (pw_and1 (pt_not (pt_val (pe_callB (cIsX K hz hf) (by rfl) T.b_isinstance (by decide +kernel) (pa_cons (pv 1) (pa_cons (pe_gR _ T.c_BadLine) pa_nil))))))).pt (pss_one (ps_ret (pe_tup (pa_cons (pe_S [119, 101, 97, 116, 104, 101, 114]) (pa_cons (pe_xf T.e_BadWeather.xf T.nf_BadWeather_number hz hf (pv 1)) pa_nil))))) pss_nil)))) (pss_one (ps_ret (pe_tup (pa_cons (pe_S [111, 116, 104, 101, 114]) pa_nil))))), ?_⟩
  show (_ : TS) { nx := fun _ H' => Q .non H', rt := Q } [some x, none] H
  obtain ⟨A0, d, sa, hx, hd, q⟩ := h
  walk_at "go"
  refine ⟨A0, d, sa, hx, hd, ?_⟩
  unfold writD at q
  cases eb : badW (deepD d) with
  | some k =>
    simp only [eb] at q
    intro dd H1 nd s1 hdd
    refine i_caught T.m_BadWeather_GlimError fun a na => ?_
    show (_ : TS) _ [some x, some (.ref a)] H1
    walk_at "go"
    refine i_isX hdd T.e_BadWeather (.own _) T.k_BadWeather_BadWeather ?_
    walk_at "go"
    refine i_isX hdd T.e_BadWeather (.own _) T.k_BadWeather_BadLine ?_
    walk_at "go"
    refine i_xf rfl hdd ?_
    walk_at "go"
    refine i_new (by show 2 ≤ 100000; omega) fun r nr => ?_
    have x1 : Ext A0 H A0 H1 := ⟨Same.refl _, sa.trans s1, s1, fun b h1 h2 => absurd h1 h2⟩
    exact q _ _ _ (x1.new nr) (At.mkTup upd_same (.cons (.str _ (by decide)) (.one (.int _))) (by show 2 ≤ 10000; decide))
  | none =>
    simp only [eb] at q
    intro ds A1 H1 v e x1 hv
    simp only [e] at q
    walk_at "go"
    refine i_new (by show 2 ≤ 100000; omega) fun r nr => ?_
    walk_at "go"
    have nA := x1.ag.free nr
    exact q _ _ _ (x1.new nr) (At.mkTup upd_same (.cons (.str _ (by decide)) (.one (hv.same (same_upd nA)))) (by show 2 ≤ 10000; decide))
def p_L_read : P1 := fun x H Q _ => ∃ A d, Same A H ∧ At A x d ∧ ∀ A' H' v, Ext A H A' H' → At A' v (readD d) → Q v H'
theorem ok_L_read (T : Txt K mg C_GlimError C_BadLine C_BadWeather C_Lines) : OK P w K mg base CX0 10 "_law_read" ["_law_lines"] (sp1  p_L_read) := by
  refine OK.mk (k := 9) T.d_L_read sc_L_read len1 fun f cdv A outer s H vs Q E hr h => ?_
  obtain ⟨x, rfl, h⟩ := h
  refine ⟨_, (pss_cons (ps_try_as (i := 1) rfl rfl sc_L_read.nd rfl rfl ⟨rfl, by decide, Or.inl T.c_GlimError⟩ takes0 (fun W pn xe tk _ => (pss_one (ps_ret (pe_tup (pa_cons (pe_S [114, 101, 97, 100]) (pa_cons (pe_fS (ok_read_weathers (K := K) T) (hr.mono (by decide)) (fun σ => passAt tk σ) (pa_cons (pv 0) pa_nil)) pa_nil)))))) (fun a oe cls d pn hz hf => (pss_cons (ps_set (i := 2) sc_L_read.nd rfl (Or.inl rfl) (pe_lst (pa_cons (pe_callB (cIsX K hz hf) (by rfl) T.b_isinstance (by decide +kernel) (pa_cons (pv 1) (pa_cons (pe_gR _ T.c_BadLine) pa_nil))) (pa_cons (pe_callB (cIsX K hz hf) (by rfl) T.b_isinstance (by decide +kernel) (pa_cons (pv 1) (pa_cons (pe_gR _ T.c_BadWeather) pa_nil))) (pa_cons (pe_callB (cIsX K hz hf) (by rfl) T.b_isinstance (by decide +kernel) (pa_cons (pv 1) (pa_cons (pe_bltn (v := .ty "ValueError") (by rfl) T.b_ValueError (by decide +kernel) rfl) pa_nil))) pa_nil))))) (pss_cons (ps_if (pt_cmpR (opEq K hr.units) (pv 2) (pe_lst (pa_cons pe_bl (pa_cons pe_bl (pa_cons pe_bl pa_nil)))) (nomark _)) (pss_one (ps_ret (pe_tup (pa_cons (pe_S [108, 105, 110, 101]) (pa_cons (pe_xf T.e_BadLine.xf T.nf_BadLine_line hz hf (pv 1)) (pa_cons (pe_xf T.e_BadLine.xf T.nf_BadLine_word hz hf (pv 1)) pa_nil)))))) pss_nil) (pss_one (ps_if (pt_cmpR (opEq K hr.units) (pv 2) (pe_lst (pa_cons pe_bl (pa_cons pe_bl (pa_cons pe_bl pa_nil)))) (nomark _)) (pss_one (ps_ret (pe_tup (pa_cons (pe_S [119, 101, 97, 116, 104, 101, 114]) (pa_cons (pe_xf T.e_BadWeather.xf T.nf_BadWeather_number hz hf (pv 1)) pa_nil))))) pss_nil)))))) (pss_one (ps_ret (pe_tup (pa_cons (pe_S [111, 116, 104, 101, 114]) pa_nil))))), ?_⟩
  show (_ : TS) { nx := fun _ H' => Q .non H', rt := Q } [some x, none, none] H
  obtain ⟨A0, d, sa, hx, q⟩ := h
  walk_at "go"
  refine ⟨A0, d, sa, hx, ?_⟩
  unfold readD at q
  cases es : seqOf d with
  | none =>
    simp only [es] at q
    intro dd H1 nd s1 hdd
    refine i_caught T.m_BadLine_GlimError fun a na => ?_
    show (_ : TS) _ [some x, some (.ref a), none] H1
    walk_at "go"
    refine i_isX hdd T.e_BadLine (.own _) T.k_BadLine_BadLine ?_
    walk_at "go"
    refine i_isX hdd T.e_BadLine (.own _) T.k_BadLine_BadWeather ?_
    walk_at "go"
    refine i_isX hdd T.e_BadLine (.ty _) T.k_BadLine_ValueError ?_
    walk_at "go"
    refine i_new (by show 3 ≤ 100000; omega) fun p np => ?_
    walk_at "go"
    refine i_new (by show 3 ≤ 100000; omega) fun p2 np2 => ?_
    have npp : p ≠ p2 := fun e => by rw [e, upd_same] at np2; cases np2
    refine i_eq_data (.lst (.inl (.inl ((upd_ne npp).trans upd_same))) (dp_bls [true, false, true])) (.lst (.inl (.inl upd_same)) (dp_bls [true, false, true])) (by decide) (by decide) (r := true) (by decide) ?_
    have x1 : Ext A0 H A0 H1 := ⟨Same.refl _, sa.trans s1, s1, fun b h1 h2 => absurd h1 h2⟩
    have x2 := (x1.hid (o := .lst ([true, false, true].map V.bl)) np).hid (o := .lst ([true, false, true].map V.bl)) np2
    have np3 : H1 p2 = none := by rw [upd_ne (Ne.symm npp)] at np2; exact np2
    have s2 : Same H1 (upd (upd H1 p (.lst ([true, false, true].map V.bl))) p2 (.lst ([true, false, true].map V.bl))) := Same.upd (same_upd np) np3
    walk_at "go"
    refine i_xfG rfl (s2 _ _ hdd) (lk_line _ _) ?_
    walk_at "go"
    refine i_xfG rfl (s2 _ _ hdd) (lk_word _ _) ?_
    walk_at "go"
    refine i_new (by show 3 ≤ 100000; omega) fun r nr => ?_
    exact q _ _ _ (x2.new nr) (At.mkTup upd_same (.cons (.str _ (by decide)) (.cons (.int _) (.one (.int _)))) (by show 3 ≤ 10000; decide))
  | some ds =>
  simp only [es] at q
  unfold dueD at q
  show (match readAll ds 0 with
      | .inr (n, e) => Bl _ H C_BadLine n e
      | .inl ws => match badW (.tuple ws) with
        | some k => Rz _ H C_BadWeather "number" (.int k)
        | none => ∀ A' H' v, Ext A0 H A' H' → At A' v (.tuple ws) → _)
  cases ra : readAll ds 0 with
  | inr ne =>
    obtain ⟨n, e⟩ := ne
    rw [ra] at q
    intro dd H1 nd s1 hdd
    refine i_caught T.m_BadLine_GlimError fun a na => ?_
    show (_ : TS) _ [some x, some (.ref a), none] H1
    walk_at "go"
    refine i_isX hdd T.e_BadLine (.own _) T.k_BadLine_BadLine ?_
    walk_at "go"
    refine i_isX hdd T.e_BadLine (.own _) T.k_BadLine_BadWeather ?_
    walk_at "go"
    refine i_isX hdd T.e_BadLine (.ty _) T.k_BadLine_ValueError ?_
    walk_at "go"
    refine i_new (by show 3 ≤ 100000; omega) fun p np => ?_
    walk_at "go"
    refine i_new (by show 3 ≤ 100000; omega) fun p2 np2 => ?_
    have npp : p ≠ p2 := fun e => by rw [e, upd_same] at np2; cases np2
    refine i_eq_data (.lst (.inl (.inl ((upd_ne npp).trans upd_same))) (dp_bls [true, false, true])) (.lst (.inl (.inl upd_same)) (dp_bls [true, false, true])) (by decide) (by decide) (r := true) (by decide) ?_
    have x1 : Ext A0 H A0 H1 := ⟨Same.refl _, sa.trans s1, s1, fun b h1 h2 => absurd h1 h2⟩
    have x2 := (x1.hid (o := .lst ([true, false, true].map V.bl)) np).hid (o := .lst ([true, false, true].map V.bl)) np2
    have np3 : H1 p2 = none := by rw [upd_ne (Ne.symm npp)] at np2; exact np2
    have s2 : Same H1 (upd (upd H1 p (.lst ([true, false, true].map V.bl))) p2 (.lst ([true, false, true].map V.bl))) := Same.upd (same_upd np) np3
    walk_at "go"
    refine i_xfG rfl (s2 _ _ hdd) (lk_line _ _) ?_
    walk_at "go"
    refine i_xfG rfl (s2 _ _ hdd) (lk_word _ _) ?_
    walk_at "go"
    refine i_new (by show 3 ≤ 100000; omega) fun r nr => ?_
    exact q _ _ _ (x2.new nr) (At.mkTup upd_same (.cons (.str _ (by decide)) (.cons (.int _) (.one (.int _)))) (by show 3 ≤ 10000; decide))
  | inl ws =>
    rw [ra] at q
    have q : ∀ A' H' v, Ext A0 H A' H' → At A' v (match badW (.tuple ws) with | some k => .tuple [dS cWea, .int k] | none => .tuple [dS cRead, .tuple ws]) → Q v H' := q
    show (match badW (.tuple ws) with
        | some k => Rz _ H C_BadWeather "number" (.int k)
        | none => ∀ A' H' v, Ext A0 H A' H' → At A' v (.tuple ws) → _)
    cases eb : badW (.tuple ws) with
    | some k =>
      simp only [eb] at q
      intro dd H1 nd s1 hdd
      refine i_caught T.m_BadWeather_GlimError fun a na => ?_
      show (_ : TS) _ [some x, some (.ref a), none] H1
      walk_at "go"
      refine i_isX hdd T.e_BadWeather (.own _) T.k_BadWeather_BadLine ?_
      walk_at "go"
      refine i_isX hdd T.e_BadWeather (.own _) T.k_BadWeather_BadWeather ?_
      walk_at "go"
      refine i_isX hdd T.e_BadWeather (.ty _) T.k_BadWeather_ValueError ?_
      walk_at "go"
      refine i_new (by show 3 ≤ 100000; omega) fun p np => ?_
      walk_at "go"
      refine i_new (by show 3 ≤ 100000; omega) fun p2 np2 => ?_
      have npp : p ≠ p2 := fun e => by rw [e, upd_same] at np2; cases np2
      refine i_eq_data (.lst (.inl (.inl ((upd_ne npp).trans upd_same))) (dp_bls [false, true, true])) (.lst (.inl (.inl upd_same)) (dp_bls [true, false, true])) (by decide) (by decide) (r := false) (by decide) ?_
      have x1 : Ext A0 H A0 H1 := ⟨Same.refl _, sa.trans s1, s1, fun b h1 h2 => absurd h1 h2⟩
      have x2 := (x1.hid (o := .lst ([false, true, true].map V.bl)) np).hid (o := .lst ([true, false, true].map V.bl)) np2
      have np3 : H1 p2 = none := by rw [upd_ne (Ne.symm npp)] at np2; exact np2
      have s2 : Same H1 (upd (upd H1 p (.lst ([false, true, true].map V.bl))) p2 (.lst ([true, false, true].map V.bl))) := Same.upd (same_upd np) np3
      walk_at "go"
      refine i_new (by show 3 ≤ 100000; omega) fun p3 np4 => ?_
      have ne3 : p ≠ p3 := fun e => by rw [← e, upd_ne npp, upd_same] at np4; cases np4
      refine i_eq_data (.lst (.inl (.inl ((upd_ne ne3).trans ((upd_ne npp).trans upd_same)))) (dp_bls [false, true, true])) (.lst (.inl (.inl upd_same)) (dp_bls [false, true, true])) (by decide) (by decide) (r := true) (by decide) ?_
      have x3 := x2.hid (o := .lst ([false, true, true].map V.bl)) np4
      have s3 := s2.trans (same_upd (o := .lst ([false, true, true].map V.bl)) np4)
      walk_at "go"
      refine i_xf rfl (s3 _ _ hdd) ?_
      walk_at "go"
      refine i_new (by show 2 ≤ 100000; omega) fun r nr => ?_
      exact q _ _ _ (x3.new nr) (At.mkTup upd_same (.cons (.str _ (by decide)) (.one (.int _))) (by show 2 ≤ 10000; decide))
    | none =>
      simp only [eb] at q
      intro A1 H1 v x1 hv
      walk_at "go"
      refine i_new (by show 2 ≤ 100000; omega) fun r nr => ?_
      walk_at "go"
      have nA := x1.ag.free nr
      exact q _ _ _ (x1.new nr) (At.mkTup upd_same (.cons (.str _ (by decide)) (.one (hv.same (same_upd nA)))) (by show 2 ≤ 10000; decide))
end
end K12
namespace K12
open PySem PySem.Spec PyProof.Rows L2 Fg
local macro_rules | `(tactic| walk_at "sq") => `(tactic| first
  | assumption
  | exact .inl (.inl (by assumption))
  | exact .inl (.inl upd_same))
local macro_rules | `(tactic| walk_at "st") => `(tactic| first
  | assumption
  | exact .inl (.inl (by assumption))
  | exact .inl (.inl upd_same))
local macro_rules | `(tactic| walk_at "o") => `(tactic| first
  | omega
  | assumption
  | (simp only [List.length_append, List.length_take, List.length_drop, List.length_cons, List.length_nil, List.length_singleton, List.length_map, List.length_range, Int.toNat_natCast] ; omega))
local macro_rules | `(tactic| walk_at "s") => `(tactic| first
  | (with_reducible refine i_seq ?_)
  | (with_reducible refine i_asg ?_)
  | ((with_reducible refine' i_var ?h1 ?_); (case h1 => rfl))
  | (with_reducible refine i_c ?_)
  | ((with_reducible refine' i_gname' ?h1 ?_); (case h1 => (simp only [List.set_cons_zero, List.set_cons_succ]; rfl)))
  | (with_reducible refine i_op ?_)
  | (with_reducible refine i_ifS ?_)
  | (with_reducible refine i_for ?_)
  | (with_reducible refine i_test ?_)
  | (with_reducible refine i_B ?_)
  | (with_reducible refine i_exbl ?_)
  | (with_reducible refine i_exint ?_)
  | (with_reducible refine i_cb ?_)
  | (with_reducible refine i_nil ?_)
  | (with_reducible refine i_cons ?_)
  | (with_reducible refine i_ret ?_)
  | (with_reducible refine i_sl ?_)
  | (with_reducible refine i_nopart ?_)
  | (with_reducible refine i_part ?_)
  | (with_reducible refine i_add_int ?_)
  | (with_reducible refine i_sub ?_)
  | (with_reducible refine i_lt ?_)
  | ((with_reducible refine' i_mod ?h1 ?_); (case h1 => walk_at "o"))
  | ((with_reducible refine' i_fdiv ?h1 ?_); (case h1 => (refine cdiv_small ?_ ?_ <;> walk_at "o")))
  | ((with_reducible refine' i_sl_to ?h1 ?h2 ?_); (case h1 => walk_at "o"); (case h2 => walk_at "o"))
  | ((with_reducible refine' i_sl_from ?h1 ?h2 ?_); (case h1 => walk_at "o"); (case h2 => walk_at "o"))
  | ((with_reducible refine' i_add_str ?h1 ?_); (case h1 => walk_at "o"))
  | ((with_reducible refine' i_mul_int ?h1 ?_); (case h1 => first | (refine mul_small ?_ ?_ <;> walk_at "o") | (refine mul_smallR ?_ ?_ <;> walk_at "o")))
  | (with_reducible refine i_le ?_)
  | (with_reducible refine i_gt ?_)
  | (with_reducible refine i_ge ?_)
  | (with_reducible refine i_eq_int ?_)
  | (with_reducible refine i_eq_str ?_)
  | (with_reducible refine i_ne_int ?_)
  | (with_reducible refine i_ne_str ?_)
  | (with_reducible refine i_eq_bl ?_)
  | (with_reducible refine i_ne_bl ?_)
  | (with_reducible refine i_in_sg ?_)
  | (with_reducible refine i_notIn_sg ?_)
  | (with_reducible refine i_call ?_)
  | (with_reducible refine i_callS ?_)
  | (with_reducible refine i_sp1 ?_)
  | (with_reducible refine i_sp2 ?_)
  | (with_reducible refine i_sp3 ?_)
  | (with_reducible refine i_sp4 ?_)
  | (with_reducible refine i_sp1' ?_)
  | (with_reducible refine i_sp2' ?_)
  | (with_reducible refine i_sp3' ?_)
  | ((with_reducible refine' i_ix_lst ?h1 ?h2 ?_); (case h1 => walk_at "sq"); (case h2 => first | exact atI_nat rfl | rfl))
  | ((with_reducible refine' i_ix_tup ?h1 ?h2 ?_); (case h1 => walk_at "st"); (case h2 => first | exact atI_nat rfl | rfl))
  | (with_reducible refine i_gsub ?_)
  | (with_reducible refine i_par ?_)
  | (with_reducible refine i_lstRg1 ?_)
  | (with_reducible refine i_app ?_)
  | (with_reducible refine i_par2 ?_)
  | ((with_reducible refine' i_aug ?h1 ?_); (case h1 => rfl))
  | (with_reducible refine i_ipI ?_)
  | ((with_reducible refine' i_gtup2 ?h1 ?_); (case h1 => walk_at "st"))
  | (with_reducible refine i_int_bl ?_)
  | (with_reducible refine i_raise ?_)
  | (with_reducible refine i_mkE ?_)
  | (with_reducible refine i_ex1 ?_)
  | (with_reducible refine i_and ?_)
  | (with_reducible refine i_or ?_)
  | (with_reducible refine i_not ?_)
  | (with_reducible refine i_tt ?_)
  | (with_reducible refine i_ff ?_)
  | (with_reducible refine i_nott ?_)
  | (with_reducible refine i_notf ?_)
  | (with_reducible refine i_andV ?_)
  | (with_reducible refine i_orV ?_)
  | (with_reducible refine i_notV ?_)
  | (with_reducible refine i_ifE ?_)
  | (with_reducible refine i_tup ?_)
  | (with_reducible refine i_lst ?_)
  | (with_reducible refine i_un ?_)
  | (with_reducible refine i_neg ?_)
  | (with_reducible refine i_chain ?_)
  | (with_reducible refine i_next ?_)
  | (with_reducible refine i_retN ?_)
  | (with_reducible refine i_drop ?_)
  | (with_reducible refine i_int_int ?_)
  | (with_reducible refine i_abs ?_)
  | (with_reducible refine i_m1c ?_)
  | (with_reducible refine i_is_non ?_)
  | (with_reducible refine i_is_int ?_)
  | (with_reducible refine i_is_bl ?_)
  | (with_reducible refine i_isn_bl ?_)
  | (with_reducible refine i_is_str ?_)
  | (with_reducible refine i_is_ref ?_)
  | (with_reducible refine i_isn_non ?_)
  | (with_reducible refine i_isn_int ?_)
  | (with_reducible refine i_isn_str ?_)
  | (with_reducible refine i_isn_ref ?_)
  | (with_reducible refine i_len_str ?h1 ?_; (case h1 => walk_at "o"))
  | (with_reducible refine i_callD ?_)
  | (with_reducible refine i_spD2 ?_)
  | (with_reducible refine i_spM1 ?_)
  | (with_reducible refine i_spM2 ?_)
  | (with_reducible refine i_spM3 ?_)
  | (with_reducible refine i_spM4 ?_)
  | (with_reducible refine i_spM3d ?_)
  | (with_reducible refine i_tfld ?_)
  | (with_reducible refine i_sfld ?_)
  | (with_reducible refine i_meth ?_)
  | (with_reducible refine i_make ?_)
  | (with_reducible refine i_spl ?_)
  | (with_reducible refine i_mkE2 ?_)
  | (with_reducible refine i_ex2 ?_)
  | (with_reducible refine i_dget ?_)
  | (with_reducible refine i_tru ?_)
  | (with_reducible refine i_dput ?_)
  | (with_reducible refine i_dnotin ?_)
  | (with_reducible refine i_din ?_)
  | (with_reducible refine i_isi_int_int ?_) | (with_reducible refine i_isi_int_bool ?_) | (with_reducible refine i_isi_int_str ?_) | (with_reducible refine i_isi_int_tuple ?_) | (with_reducible refine i_isi_int_list ?_)
  | (with_reducible refine i_isi_bl_int ?_) | (with_reducible refine i_isi_bl_bool ?_) | (with_reducible refine i_isi_bl_str ?_) | (with_reducible refine i_isi_bl_tuple ?_) | (with_reducible refine i_isi_bl_list ?_)
  | (with_reducible refine i_isi_str_int ?_) | (with_reducible refine i_isi_str_bool ?_) | (with_reducible refine i_isi_str_str ?_) | (with_reducible refine i_isi_str_tuple ?_) | (with_reducible refine i_isi_str_list ?_)
  | (with_reducible refine i_isi_non_int ?_) | (with_reducible refine i_isi_non_bool ?_) | (with_reducible refine i_isi_non_str ?_) | (with_reducible refine i_isi_non_tuple ?_) | (with_reducible refine i_isi_non_list ?_))
local macro_rules | `(tactic| walk_at "go") => `(tactic| (repeat' (walk_at "s")))
local macro_rules | `(tactic| walk_at "n") => `(tactic| simp only [wipe, List.map_cons, List.map_nil, List.set_cons_zero, List.set_cons_succ])
/-- the words of a weather that the law draws -/
inductive GoodW : List PyData → Prop
  | lose (n : Nat) (h1 : 1 ≤ n) (h2 : n ≤ 9) : GoodW [dS cLose, .int (n : Int)]
  | miss (a b : Nat) (h1 : 1 ≤ a) (h2 : a ≤ 2) (h3 : a < b) (h4 : b ≤ 8) : GoodW [dS cMiss, .int (a : Int), .int (b : Int)]
  | take (alw : Bool) (s t : Nat) (h1 : s ∈ LT) (h2 : t ∈ SG) (h3 : s ≠ t) : GoodW [dS (if alw then cAlw else cTake), dS [s], dS [t]]
  | glow : GoodW [dS cGlow]
  | late : GoodW [dS cLate]
theorem words_lose : ∀ n < 10, wordsOf ⟨(lineD [dS cLose, .int ((n : Nat) : Int)]).toArray⟩ = [cLose, dec n] := by decide +kernel
theorem words_miss : ∀ a < 3, ∀ b < 9, wordsOf ⟨(lineD [dS cMiss, .int ((a : Nat) : Int), .int ((b : Nat) : Int)]).toArray⟩ = [cMiss, dec a, dec b] := by decide +kernel
theorem words_take : ∀ alw : Bool, ∀ s ∈ LT, ∀ t ∈ SG, wordsOf ⟨(lineD [dS (if alw then cAlw else cTake), dS [s], dS [t]]).toArray⟩ = [if alw then cAlw else cTake, [s], [t]] := by decide +kernel
theorem words_glow : wordsOf ⟨(lineD [dS cGlow]).toArray⟩ = [cGlow] := by decide +kernel
theorem words_late : wordsOf ⟨(lineD [dS cLate]).toArray⟩ = [cLate] := by decide +kernel
theorem readLn_of {z : Str} {ws : List (List Nat)} (h : wordsOf z = ws) : readLn (.str z) = (match forms (ws.getD 0 []) with
      | none => .inr 0
      | some fs => (match readFm ws 1 fs with | .inl r => .inl (dS (ws.getD 0 []) :: r) | .inr e => .inr e)) := by
  subst h; rfl
theorem numW_dec : ∀ n < 10, 1 ≤ n → numW (dec n) = some ((n : Nat) : Int) := by decide +kernel
theorem fmNum {n : Nat} (h1 : 1 ≤ n) (h2 : n ≤ 9) : fmD .num (dec n) = some (.int (n : Int)) := by
  show (numW (dec n)).map PyData.int = _
  rw [numW_dec n (by omega) h1]
  rfl
theorem GoodW.read {es : List PyData} (h : GoodW es) : readLn (dS (lineD es)) = .inl es := by
  cases h with
  | lose n h1 h2 =>
    rw [readLn_of (words_lose n (by omega))]
    show (match forms cLose with | none => Sum.inr 0 | some fs => (match readFm [cLose, dec n] 1 fs with | .inl r => .inl (dS cLose :: r) | .inr e => .inr e)) = _
    rw [show forms cLose = some [.num] from rfl]
    show (match (match fmD .num (dec n) with | some d => (match readFm [cLose, dec n] 2 [] with | .inl r => Sum.inl (d :: r) | .inr e => .inr e) | none => .inr 1) with | .inl r => Sum.inl (dS cLose :: r) | .inr e => .inr e) = _
    rw [fmNum h1 h2]
    rfl
  | miss a b h1 h2 h3 h4 =>
    rw [readLn_of (words_miss a (by omega) b (by omega))]
    show (match forms cMiss with | none => Sum.inr 0 | some fs => (match readFm [cMiss, dec a, dec b] 1 fs with | .inl r => .inl (dS cMiss :: r) | .inr e => .inr e)) = _
    rw [show forms cMiss = some [.num, .num] from rfl]
    show (match (match fmD .num (dec a) with | some d => (match (match fmD .num (dec b) with | some d => (match readFm [cMiss, dec a, dec b] 3 [] with | .inl r => Sum.inl (d :: r) | .inr e => .inr e) | none => .inr 2) with | .inl r => Sum.inl (d :: r) | .inr e => .inr e) | none => .inr 1) with | .inl r => Sum.inl (dS cMiss :: r) | .inr e => .inr e) = _
    rw [fmNum h1 (by omega), fmNum (n := b) (by omega) (by omega)]
    rfl
  | take alw s t h1 h2 h3 =>
    rw [readLn_of (words_take alw s h1 t h2)]
    have e1 : ltL [s] = true := decide_eq_true h1
    have e2 : sgL [t] = true := decide_eq_true h2
    have f1 : fmD .lit [s] = some (dS [s]) := by show (if ltL [s] then some (dS [s]) else none) = _; rw [if_pos e1]
    have f2 : fmD .sg [t] = some (dS [t]) := by show (if sgL [t] then some (dS [t]) else none) = _; rw [if_pos e2]
    cases alw with
    | true =>
      show (match (match fmD .lit [s] with | some d => (match (match fmD .sg [t] with | some d => (match readFm [cAlw, [s], [t]] 3 [] with | .inl r => Sum.inl (d :: r) | .inr e => .inr e) | none => .inr 2) with | .inl r => Sum.inl (d :: r) | .inr e => .inr e) | none => .inr 1) with | .inl r => Sum.inl (dS cAlw :: r) | .inr e => .inr e) = _
      rw [f1, f2]
      rfl
    | false =>
      show (match (match fmD .lit [s] with | some d => (match (match fmD .sg [t] with | some d => (match readFm [cTake, [s], [t]] 3 [] with | .inl r => Sum.inl (d :: r) | .inr e => .inr e) | none => .inr 2) with | .inl r => Sum.inl (d :: r) | .inr e => .inr e) | none => .inr 1) with | .inl r => Sum.inl (dS cTake :: r) | .inr e => .inr e) = _
      rw [f1, f2]
      rfl
  | glow =>
    rw [readLn_of words_glow]
    rfl
  | late =>
    rw [readLn_of words_late]
    rfl
theorem GoodW.isW {es : List PyData} (h : GoodW es) : isW (.tuple es) = true := by
  cases h with
  | lose n h1 h2 =>
    show isIn (.int (n : Int)) 1 9 = true
    rw [isIn_int]; simp; omega
  | miss a b h1 h2 h3 h4 =>
    show (isIn (.int (a : Int)) 1 2 && isIn (.int (b : Int)) 2 8 && decide ((a : Int) < (b : Int))) = true
    rw [isIn_int, isIn_int]; simp; omega
  | take alw s t h1 h2 h3 =>
    have e1 : ltL [s] = true := decide_eq_true h1
    have e2 : sgL [t] = true := decide_eq_true h2
    have e3 : (ltL [s] && sgL [t] && !decide ([s] = [t])) = true := by
      rw [e1, e2]; simpa using h3
    cases alw <;> exact e3
  | glow => rfl
  | late => rfl
theorem GoodW.flat {es : List PyData} (h : GoodW es) : FlatT es := by
  intro d hd
  cases h <;> simp at hd <;> (try rcases hd with rfl | rfl | rfl) <;> (try rcases hd with rfl | rfl) <;> (try subst hd) <;> rfl
section
variable {P : Program} {w : World} {K : PySem.W.Frag} {mg : Str → Option Value} {base : Heap} {C_GlimError C_BadLine C_BadWeather C_Lines : Addr}
def p_L_line : P1 := fun x H Q _ => ∃ A ds, Same A H ∧ At A x (.tuple ds) ∧ ds.length ≤ 3 ∧ (∀ d ∈ ds, okT d) ∧ ∀ H', Same H H' → Q (S (lineD ds)) H'
theorem ok_L_line (T : Txt K mg C_GlimError C_BadLine C_BadWeather C_Lines) : OK P w K mg base CX0 1 "_law_line" ["_law_weather_here"] (sp1  p_L_line) := by
  refine OK.mk (k := 0) T.d_L_line sc_L_line len1 fun f cdv A outer s H vs Q E hr h => ?_
  obtain ⟨x, rfl, h⟩ := h
  refine ⟨_, (pss_one (ps_ret (peJoin K (pe_S [32]) (pe_lc (own := [("_law_thing", 1)]) (g := gName 1) (tt := tYes) (by rfl) sc_L_line.nd (piAny K (pv 0)) (blkOk_by (own := [("_law_thing", 1)]) (N := ["_law_weather_here", "_law_thing"]) (sc := (defScope s_L_line)) (by decide +kernel)) (fun _ _ _ _ _ => (pg_name (i := 1) sc_L_line.nd rfl (Or.inl rfl))) (fun _ _ _ _ _ => pts_nil) (fun _ _ _ _ _ => (pe_callTy call_strP (by rfl) T.b_str (by decide +kernel) (pa_cons (pv 1) pa_nil))))))), ?_⟩
  show (_ : TS) { nx := fun _ H' => Q .non H', rt := Q } [some x, none] H
  obtain ⟨A0, ds, sa, hx, hl3, hok, q⟩ := h
  obtain ⟨a, xs, rfl, hH, hl, al⟩ := hx.tupled
  walk_at "go"
  refine c_tupD sa (fun R k => by walk_at "go"; exact k) (.inl (.inl (sa _ _ hH))) al hl (fun d => dS (txD d)) (fun _ => rfl) (fun y d A1 G1 hd hy y1 QV k => ?_) (fun Dl A1 G1 l y1 e ea al2 ll => ?_)
  · show (_ : TE) [some (.ref a), some y] G1 QV
    have ok := hok d hd
    have len := okT_len ok
    walk_at "go"
    cases d with
    | int i =>
      obtain rfl := hy.intd
      obtain ⟨n, rfl⟩ := Int.eq_ofNat_of_zero_le ok.1
      have hn : n < 100 := by have := ok.2; omega
      refine .inl ⟨(n : Int), rfl, ?_, ?_⟩
      · have h1 : (n : Int).natAbs = n := rfl
        rw [h1]
        rcases Nat.eq_zero_or_pos n with z | z
        · rw [z]; decide
        · have := Nat.log2_lt (by omega : n ≠ 0) |>.mpr (show n < 2 ^ 1920 from Nat.lt_of_lt_of_le hn (by
            have : (2:Nat) ^ 7 ≤ 2 ^ 1920 := Nat.pow_le_pow_right (by decide) (by decide)
            omega))
          exact this
      · rw [dec_str n hn]
        exact k _ _ _ (Ext.refl y1.ag) (.str _ (by have := dec_len n; omega))
    | str x =>
      obtain ⟨l, rfl, rfl, hl0⟩ := hy.strl
      exact .inr ⟨_, rfl, k _ _ _ (Ext.refl y1.ag) hy⟩
    | _ => exact ok.elim
  · have el : l = (ds.map txD).map S := by
      have al3 : AtAll A1 l ((ds.map txD).map dS) := by rw [List.map_map]; exact al2
      exact strs_of al3
    rw [el] at e
    walk_at "go"
    refine i_joinG (.inl (.inl e)) ?_ ?_
    · have := tx_sum ds hok
      rw [List.length_map]
      show _ + ds.length * 1 ≤ 100000
      omega
    · exact q _ y1.gg
end
end K12
namespace K12
open PySem PySem.Spec PyProof.Rows L2 Fg
local macro_rules | `(tactic| walk_at "sq") => `(tactic| first
  | assumption
  | exact .inl (.inl (by assumption))
  | exact .inl (.inl upd_same))
local macro_rules | `(tactic| walk_at "st") => `(tactic| first
  | assumption
  | exact .inl (.inl (by assumption))
  | exact .inl (.inl upd_same))
local macro_rules | `(tactic| walk_at "o") => `(tactic| first
  | omega
  | assumption
  | (simp only [List.length_append, List.length_take, List.length_drop, List.length_cons, List.length_nil, List.length_singleton, List.length_map, List.length_range, Int.toNat_natCast] ; omega))
local macro_rules | `(tactic| walk_at "s") => `(tactic| first
  | (with_reducible refine i_seq ?_)
  | (with_reducible refine i_asg ?_)
  | ((with_reducible refine' i_var ?h1 ?_); (case h1 => rfl))
  | (with_reducible refine i_c ?_)
  | ((with_reducible refine' i_gname' ?h1 ?_); (case h1 => (simp only [List.set_cons_zero, List.set_cons_succ]; rfl)))
  | (with_reducible refine i_op ?_)
  | (with_reducible refine i_ifS ?_)
  | (with_reducible refine i_for ?_)
  | (with_reducible refine i_test ?_)
  | (with_reducible refine i_B ?_)
  | (with_reducible refine i_exbl ?_)
  | (with_reducible refine i_exint ?_)
  | (with_reducible refine i_cb ?_)
  | (with_reducible refine i_nil ?_)
  | (with_reducible refine i_cons ?_)
  | (with_reducible refine i_ret ?_)
  | (with_reducible refine i_sl ?_)
  | (with_reducible refine i_nopart ?_)
  | (with_reducible refine i_part ?_)
  | (with_reducible refine i_add_int ?_)
  | (with_reducible refine i_sub ?_)
  | (with_reducible refine i_lt ?_)
  | ((with_reducible refine' i_mod ?h1 ?_); (case h1 => walk_at "o"))
  | ((with_reducible refine' i_fdiv ?h1 ?_); (case h1 => (refine cdiv_small ?_ ?_ <;> walk_at "o")))
  | ((with_reducible refine' i_sl_to ?h1 ?h2 ?_); (case h1 => walk_at "o"); (case h2 => walk_at "o"))
  | ((with_reducible refine' i_sl_from ?h1 ?h2 ?_); (case h1 => walk_at "o"); (case h2 => walk_at "o"))
  | ((with_reducible refine' i_add_str ?h1 ?_); (case h1 => walk_at "o"))
  | ((with_reducible refine' i_mul_int ?h1 ?_); (case h1 => first | (refine mul_small ?_ ?_ <;> walk_at "o") | (refine mul_smallR ?_ ?_ <;> walk_at "o")))
  | (with_reducible refine i_le ?_)
  | (with_reducible refine i_gt ?_)
  | (with_reducible refine i_ge ?_)
  | (with_reducible refine i_eq_int ?_)
  | (with_reducible refine i_eq_str ?_)
  | (with_reducible refine i_ne_int ?_)
  | (with_reducible refine i_ne_str ?_)
  | (with_reducible refine i_eq_bl ?_)
  | (with_reducible refine i_ne_bl ?_)
  | (with_reducible refine i_in_sg ?_)
  | (with_reducible refine i_notIn_sg ?_)
  | (with_reducible refine i_call ?_)
  | (with_reducible refine i_callS ?_)
  | (with_reducible refine i_sp1 ?_)
  | (with_reducible refine i_sp2 ?_)
  | (with_reducible refine i_sp3 ?_)
  | (with_reducible refine i_sp4 ?_)
  | (with_reducible refine i_sp1' ?_)
  | (with_reducible refine i_sp2' ?_)
  | (with_reducible refine i_sp3' ?_)
  | ((with_reducible refine' i_ix_lst ?h1 ?h2 ?_); (case h1 => walk_at "sq"); (case h2 => first | exact atI_nat rfl | rfl))
  | ((with_reducible refine' i_ix_tup ?h1 ?h2 ?_); (case h1 => walk_at "st"); (case h2 => first | exact atI_nat rfl | rfl))
  | (with_reducible refine i_gsub ?_)
  | (with_reducible refine i_par ?_)
  | (with_reducible refine i_lstRg1 ?_)
  | (with_reducible refine i_app ?_)
  | (with_reducible refine i_par2 ?_)
  | ((with_reducible refine' i_aug ?h1 ?_); (case h1 => rfl))
  | (with_reducible refine i_ipI ?_)
  | ((with_reducible refine' i_gtup2 ?h1 ?_); (case h1 => walk_at "st"))
  | (with_reducible refine i_int_bl ?_)
  | (with_reducible refine i_raise ?_)
  | (with_reducible refine i_mkE ?_)
  | (with_reducible refine i_ex1 ?_)
  | (with_reducible refine i_and ?_)
  | (with_reducible refine i_or ?_)
  | (with_reducible refine i_not ?_)
  | (with_reducible refine i_tt ?_)
  | (with_reducible refine i_ff ?_)
  | (with_reducible refine i_nott ?_)
  | (with_reducible refine i_notf ?_)
  | (with_reducible refine i_andV ?_)
  | (with_reducible refine i_orV ?_)
  | (with_reducible refine i_notV ?_)
  | (with_reducible refine i_ifE ?_)
  | (with_reducible refine i_tup ?_)
  | (with_reducible refine i_lst ?_)
  | (with_reducible refine i_un ?_)
  | (with_reducible refine i_neg ?_)
  | (with_reducible refine i_chain ?_)
  | (with_reducible refine i_next ?_)
  | (with_reducible refine i_retN ?_)
  | (with_reducible refine i_drop ?_)
  | (with_reducible refine i_int_int ?_)
  | (with_reducible refine i_abs ?_)
  | (with_reducible refine i_m1c ?_)
  | (with_reducible refine i_is_non ?_)
  | (with_reducible refine i_is_int ?_)
  | (with_reducible refine i_is_bl ?_)
  | (with_reducible refine i_isn_bl ?_)
  | (with_reducible refine i_is_str ?_)
  | (with_reducible refine i_is_ref ?_)
  | (with_reducible refine i_isn_non ?_)
  | (with_reducible refine i_isn_int ?_)
  | (with_reducible refine i_isn_str ?_)
  | (with_reducible refine i_isn_ref ?_)
  | (with_reducible refine i_len_str ?h1 ?_; (case h1 => walk_at "o"))
  | (with_reducible refine i_callD ?_)
  | (with_reducible refine i_spD2 ?_)
  | (with_reducible refine i_spM1 ?_)
  | (with_reducible refine i_spM2 ?_)
  | (with_reducible refine i_spM3 ?_)
  | (with_reducible refine i_spM4 ?_)
  | (with_reducible refine i_spM3d ?_)
  | (with_reducible refine i_tfld ?_)
  | (with_reducible refine i_sfld ?_)
  | (with_reducible refine i_meth ?_)
  | (with_reducible refine i_make ?_)
  | (with_reducible refine i_spl ?_)
  | (with_reducible refine i_mkE2 ?_)
  | (with_reducible refine i_ex2 ?_)
  | (with_reducible refine i_dget ?_)
  | (with_reducible refine i_tru ?_)
  | (with_reducible refine i_dput ?_)
  | (with_reducible refine i_dnotin ?_)
  | (with_reducible refine i_din ?_)
  | (with_reducible refine i_isi_int_int ?_) | (with_reducible refine i_isi_int_bool ?_) | (with_reducible refine i_isi_int_str ?_) | (with_reducible refine i_isi_int_tuple ?_) | (with_reducible refine i_isi_int_list ?_)
  | (with_reducible refine i_isi_bl_int ?_) | (with_reducible refine i_isi_bl_bool ?_) | (with_reducible refine i_isi_bl_str ?_) | (with_reducible refine i_isi_bl_tuple ?_) | (with_reducible refine i_isi_bl_list ?_)
  | (with_reducible refine i_isi_str_int ?_) | (with_reducible refine i_isi_str_bool ?_) | (with_reducible refine i_isi_str_str ?_) | (with_reducible refine i_isi_str_tuple ?_) | (with_reducible refine i_isi_str_list ?_)
  | (with_reducible refine i_isi_non_int ?_) | (with_reducible refine i_isi_non_bool ?_) | (with_reducible refine i_isi_non_str ?_) | (with_reducible refine i_isi_non_tuple ?_) | (with_reducible refine i_isi_non_list ?_))
local macro_rules | `(tactic| walk_at "go") => `(tactic| (repeat' (walk_at "s")))
local macro_rules | `(tactic| walk_at "n") => `(tactic| simp only [wipe, List.map_cons, List.map_nil, List.set_cons_zero, List.set_cons_succ])
theorem three {n : Int} (h : Btw n 3) : n = 0 ∨ n = 1 ∨ n = 2 := by
  have := h.1
  have := h.2.1 (by decide)
  omega
theorem lit_at {n : Int} (h : n = 0 ∨ n = 1 ∨ n = 2) : ∃ s, s ∈ LT ∧ atI (Str.ofString "grw").cps.toList n = some s := by
  rcases h with rfl | rfl | rfl
  · exact ⟨103, by decide, by decide +kernel⟩
  · exact ⟨114, by decide, by decide +kernel⟩
  · exact ⟨119, by decide, by decide +kernel⟩
theorem rep_at {s : Nat} (hs : s ∈ LT) {n : Int} (h : n = 0 ∨ n = 1 ∨ n = 2) : ∃ t, t ∈ SG ∧ s ≠ t ∧ atI (Txt.replace (Str.ofString ".grw") ⟨#[s]⟩ (Str.ofString "")).cps.toList n = some t := by
  have hs' : s = 103 ∨ s = 114 ∨ s = 119 := by simpa using hs
  rcases hs' with rfl | rfl | rfl <;> rcases h with rfl | rfl | rfl
  · exact ⟨46, by decide, by decide, by decide +kernel⟩
  · exact ⟨114, by decide, by decide, by decide +kernel⟩
  · exact ⟨119, by decide, by decide, by decide +kernel⟩
  · exact ⟨46, by decide, by decide, by decide +kernel⟩
  · exact ⟨103, by decide, by decide, by decide +kernel⟩
  · exact ⟨119, by decide, by decide, by decide +kernel⟩
  · exact ⟨46, by decide, by decide, by decide +kernel⟩
  · exact ⟨103, by decide, by decide, by decide +kernel⟩
  · exact ⟨114, by decide, by decide, by decide +kernel⟩
theorem rep_len {s : Nat} (hs : s ∈ LT) : (Txt.replace (Str.ofString ".grw") ⟨#[s]⟩ (Str.ofString "")).length ≤ sizeLine ∧ ((⟨#[s]⟩ : Str) == Str.ofString "") = false := by
  have hs' : s = 103 ∨ s = 114 ∨ s = 119 := by simpa using hs
  have h4 : ∀ c ∈ LT, (Txt.replace (Str.ofString ".grw") ⟨#[c]⟩ (Str.ofString "")).length ≤ 4 := by decide +kernel
  have h0 : ∀ c ∈ LT, ((⟨#[c]⟩ : Str) == Str.ofString "") = false := by decide +kernel
  exact ⟨Nat.le_trans (h4 s hs) (by decide), h0 s hs⟩
section
variable {P : Program} {w : World} {K : PySem.W.Frag} {mg : Str → Option Value} {base : Heap} {C_GlimError C_BadLine C_BadWeather C_Lines : Addr}
def p_L_weather (K : PySem.W.Frag) : P1 := fun x H Q _ => ∃ (Hk : Hp) (dd : Dd), x = .ref dd.a ∧ Dr K dd Hk H ∧ ∀ a xs es H', Hk a = none → Dr K dd (upd Hk a (.tup xs)) H' → GoodW es → (∀ B, AtAll B xs es) → Q (.ref a) H'
theorem ok_L_weather (T : Txt K mg C_GlimError C_BadLine C_BadWeather C_Lines) : OK P w K mg base CX0 3 "_law_weather" ["_law_draw_here"] (sp1  (p_L_weather K)) := by
  refine OK.mk (k := 2) T.d_L_weather sc_L_weather len1 fun f cdv A outer s H vs Q E hr h => ?_
  obtain ⟨x, rfl, h⟩ := h
  refine ⟨_, (pss_cons (ps_set (i := 1) sc_L_weather.nd rfl (Or.inl rfl) (pe_f (ok_L_pick (K := K) T) (hr.mono (by decide)) pass0 (pa_cons (pv 0) (pa_cons pe_int pa_nil)))) (pss_cons (ps_if (pt_cmpR (opEq K hr.units) (pv 1) pe_int (nomark _)) (pss_one (ps_ret (pe_tup (pa_cons (pe_S [108, 111, 115, 101]) (pa_cons (pe_op (opAdd K) pe_int (pe_f (ok_L_pick (K := K) T) (hr.mono (by decide)) pass0 (pa_cons (pv 0) (pa_cons pe_int pa_nil)))) pa_nil))))) pss_nil) (pss_cons (ps_if (pt_cmpR (opEq K hr.units) (pv 1) pe_int (nomark _)) (pss_cons (ps_set (i := 2) sc_L_weather.nd rfl (Or.inl rfl) (pe_op (opAdd K) pe_int (pe_f (ok_L_pick (K := K) T) (hr.mono (by decide)) pass0 (pa_cons (pv 0) (pa_cons pe_int pa_nil))))) (pss_one (ps_ret (pe_tup (pa_cons (pe_S [109, 105, 115, 115]) (pa_cons (pv 2) (pa_cons (pe_op (opAdd K) (pe_op (opAdd K) (pv 2) pe_int) (pe_f (ok_L_pick (K := K) T) (hr.mono (by decide)) pass0 (pa_cons (pv 0) (pa_cons (pe_op op_subP pe_int (pv 2)) pa_nil)))) pa_nil))))))) pss_nil) (pss_cons (ps_if (pt_cmpR op_ltP (pv 1) pe_int (nomark _)) (Fg.pss_litrep (i := 3) (j := 4) sc_L_weather.nd rfl rfl rfl (Or.inl rfl) (pe_f (ok_L_pick (K := K) T) (hr.mono (by decide)) pass0 (pa_cons (pv 0) (pa_cons pe_int pa_nil))) (pe_f (ok_L_pick (K := K) T) (hr.mono (by decide)) pass0 (pa_cons (pv 0) (pa_cons pe_int pa_nil))) (fun _ _ => rfl) (fun _ _ => rfl) (pss_one (ps_ret (pe_tup (pa_cons (pe_ix (ixK K) (pe_lst (pa_cons (pe_S [116, 97, 107, 101]) (pa_cons (pe_S [97, 108, 119, 97, 121, 115]) pa_nil))) (pe_op op_subP (pv 1) pe_int) (fun _ _ => rfl)) (pa_cons (pv 3) (pa_cons (pv 4) pa_nil))))))) pss_nil) (pss_one (ps_ret (pe_ix (ixK K) (pe_lst (pa_cons (pe_tup (pa_cons (pe_S [103, 108, 111, 119]) pa_nil)) (pa_cons (pe_tup (pa_cons (pe_S [108, 97, 116, 101]) pa_nil)) pa_nil))) (pe_op op_subP (pv 1) pe_int) (fun _ _ => rfl)))))))), ?_⟩
  show (_ : TS) { nx := fun _ H' => Q .non H', rt := Q } [some x, none, none, none, none] H
  obtain ⟨Hk, dd, rfl, dr, q⟩ := h
  walk_at "go"
  refine ⟨Hk, dd, 6, rfl, rfl, dr, by decide, fun k H1 dr1 bk => ?_⟩
  have k0 := bk.1
  have k6 := bk.2.1 (by decide)
  walk_at "go"
  refine i_dec (fun e0 => ?_) (fun e0 => ?_)
  · walk_at "go"
    refine ⟨Hk, dd, 9, rfl, rfl, dr1, by decide, fun n H2 dr2 bn => ?_⟩
    have n0 := bn.1
    have n9 := bn.2.1 (by decide)
    obtain ⟨m, rfl⟩ := Int.eq_ofNat_of_zero_le n0
    walk_at "go"
    refine i_new (by show 2 ≤ 100000; omega) fun a na => ?_
    refine q a _ [dS cLose, .int ((m + 1 : Nat) : Int)] _ (dr2.free na) (dr2.new na) (.lose (m + 1) (by omega) (by omega)) fun B => .cons (.str _ (by decide)) (.one ?_)
    have e : (1 : Int) + (m : Int) = ((m + 1 : Nat) : Int) := by omega
    rw [e]
    exact .int _
  walk_at "go"
  refine i_dec (fun e1 => ?_) (fun e1 => ?_)
  · walk_at "go"
    refine ⟨Hk, dd, 2, rfl, rfl, dr1, by decide, fun n H2 dr2 bn => ?_⟩
    have n0 := bn.1
    have n2 := bn.2.1 (by decide)
    obtain ⟨m, rfl⟩ := Int.eq_ofNat_of_zero_le n0
    walk_at "go"
    refine ⟨Hk, dd, _, rfl, rfl, dr2, by omega, fun n3 H3 dr3 bn3 => ?_⟩
    have p0 := bn3.1
    have p2 := bn3.2.1 (by omega)
    obtain ⟨m3, rfl⟩ := Int.eq_ofNat_of_zero_le p0
    walk_at "go"
    refine i_new (by show 3 ≤ 100000; omega) fun a na => ?_
    refine q a _ [dS cMiss, .int ((m + 1 : Nat) : Int), .int ((m + 1 + 1 + m3 : Nat) : Int)] _ (dr3.free na) (dr3.new na) (.miss (m + 1) (m + 1 + 1 + m3) (by omega) (by omega) (by omega) (by omega)) fun B => .cons (.str _ (by decide)) (.cons ?_ (.one ?_))
    · have e : (1 : Int) + (m : Int) = ((m + 1 : Nat) : Int) := by omega
      rw [e]; exact .int _
    · have e : (1 : Int) + (m : Int) + 1 + (m3 : Int) = ((m + 1 + 1 + m3 : Nat) : Int) := by omega
      rw [e]; exact .int _
  walk_at "go"
  refine i_dec (fun e2 => ?_) (fun e2 => ?_)
  · have k23 : k = 2 ∨ k = 3 := by omega
    unfold tLitRep
    walk_at "go"
    refine ⟨Hk, dd, 3, rfl, rfl, dr1, by decide, fun n1 H2 dr2 b2 => ?_⟩
    obtain ⟨s1, hs1, at1⟩ := lit_at (three b2)
    obtain ⟨rl1, rl2⟩ := rep_len hs1
    refine ⟨n1, s1, rfl, by decide +kernel, at1, rl2, by decide +kernel, ?_⟩
    walk_at "go"
    refine ⟨Hk, dd, 3, rfl, rfl, dr2, by decide, fun n2 H3 dr3 b3 => ?_⟩
    obtain ⟨t1, ht1, hst, at2⟩ := rep_at hs1 (three b3)
    refine ⟨n2, t1, rfl, rl1, at2, ?_⟩
    show (_ : TS) _ [some (.ref dd.a), some (.int k), none, some (S [s1]), some (S [t1])] H3
    walk_at "go"
    refine i_new (by show 2 ≤ 100000; omega) fun l nl => ?_
    have dl := dr3.same (same_upd (o := .lst [S cTake, S cAlw]) nl)
    walk_at "go"
    rcases k23 with rfl | rfl
    · refine i_ix_lst (z := 2 - 2) (v := S cTake) (.inl (.inl upd_same)) rfl ?_
      walk_at "go"
      refine i_new (by show 3 ≤ 100000; omega) fun a na => ?_
      exact q a _ [dS cTake, dS [s1], dS [t1]] _ (dl.free na) (dl.new na) (.take false s1 t1 hs1 ht1 hst) fun B => .cons (.str _ (by decide)) (.cons (.str _ (by show 1 ≤ 10000; decide)) (.one (.str _ (by show 1 ≤ 10000; decide))))
    · refine i_ix_lst (z := 3 - 2) (v := S cAlw) (.inl (.inl upd_same)) rfl ?_
      walk_at "go"
      refine i_new (by show 3 ≤ 100000; omega) fun a na => ?_
      exact q a _ [dS cAlw, dS [s1], dS [t1]] _ (dl.free na) (dl.new na) (.take true s1 t1 hs1 ht1 hst) fun B => .cons (.str _ (by decide)) (.cons (.str _ (by show 1 ≤ 10000; decide)) (.one (.str _ (by show 1 ≤ 10000; decide))))
  · have k45 : k = 4 ∨ k = 5 := by omega
    walk_at "go"
    refine i_new (by show 1 ≤ 100000; omega) fun t1 n1 => ?_
    walk_at "go"
    refine i_new (by show 1 ≤ 100000; omega) fun t2 n2 => ?_
    walk_at "go"
    refine i_new (by show 2 ≤ 100000; omega) fun l nl => ?_
    walk_at "go"
    rcases k45 with rfl | rfl
    · refine i_ix_lst (z := 4 - 4) (v := .ref t1) (.inl (.inl upd_same)) rfl ?_
      exact q t1 _ [dS cGlow] _ (dr1.free n1) (((dr1.new n1).same (same_upd n2)).same (same_upd nl)) .glow fun B => .one (.str _ (by decide))
    · refine i_ix_lst (z := 5 - 4) (v := .ref t2) (.inl (.inl upd_same)) rfl ?_
      have d1 := dr1.same (same_upd (o := .tup [S [103, 108, 111, 119]]) n1)
      exact q t2 _ [dS cLate] _ (d1.free n2) ((d1.new n2).same (same_upd nl)) .late fun B => .one (.str _ (by decide))
end
end K12
namespace K12
open PySem PySem.Spec PyProof.Rows L2 Fg
local macro_rules | `(tactic| walk_at "sq") => `(tactic| first
  | assumption
  | exact .inl (.inl (by assumption))
  | exact .inl (.inl upd_same))
local macro_rules | `(tactic| walk_at "st") => `(tactic| first
  | assumption
  | exact .inl (.inl (by assumption))
  | exact .inl (.inl upd_same))
local macro_rules | `(tactic| walk_at "o") => `(tactic| first
  | omega
  | assumption
  | (simp only [List.length_append, List.length_take, List.length_drop, List.length_cons, List.length_nil, List.length_singleton, List.length_map, List.length_range, Int.toNat_natCast] ; omega))
local macro_rules | `(tactic| walk_at "s") => `(tactic| first
  | (with_reducible refine i_seq ?_)
  | (with_reducible refine i_asg ?_)
  | ((with_reducible refine' i_var ?h1 ?_); (case h1 => rfl))
  | (with_reducible refine i_c ?_)
  | ((with_reducible refine' i_gname' ?h1 ?_); (case h1 => (simp only [List.set_cons_zero, List.set_cons_succ]; rfl)))
  | (with_reducible refine i_op ?_)
  | (with_reducible refine i_ifS ?_)
  | (with_reducible refine i_for ?_)
  | (with_reducible refine i_test ?_)
  | (with_reducible refine i_B ?_)
  | (with_reducible refine i_exbl ?_)
  | (with_reducible refine i_exint ?_)
  | (with_reducible refine i_cb ?_)
  | (with_reducible refine i_nil ?_)
  | (with_reducible refine i_cons ?_)
  | (with_reducible refine i_ret ?_)
  | (with_reducible refine i_sl ?_)
  | (with_reducible refine i_nopart ?_)
  | (with_reducible refine i_part ?_)
  | (with_reducible refine i_add_int ?_)
  | (with_reducible refine i_sub ?_)
  | (with_reducible refine i_lt ?_)
  | ((with_reducible refine' i_mod ?h1 ?_); (case h1 => walk_at "o"))
  | ((with_reducible refine' i_fdiv ?h1 ?_); (case h1 => (refine cdiv_small ?_ ?_ <;> walk_at "o")))
  | ((with_reducible refine' i_sl_to ?h1 ?h2 ?_); (case h1 => walk_at "o"); (case h2 => walk_at "o"))
  | ((with_reducible refine' i_sl_from ?h1 ?h2 ?_); (case h1 => walk_at "o"); (case h2 => walk_at "o"))
  | ((with_reducible refine' i_add_str ?h1 ?_); (case h1 => walk_at "o"))
  | ((with_reducible refine' i_mul_int ?h1 ?_); (case h1 => first | (refine mul_small ?_ ?_ <;> walk_at "o") | (refine mul_smallR ?_ ?_ <;> walk_at "o")))
  | (with_reducible refine i_le ?_)
  | (with_reducible refine i_gt ?_)
  | (with_reducible refine i_ge ?_)
  | (with_reducible refine i_eq_int ?_)
  | (with_reducible refine i_eq_str ?_)
  | (with_reducible refine i_ne_int ?_)
  | (with_reducible refine i_ne_str ?_)
  | (with_reducible refine i_eq_bl ?_)
  | (with_reducible refine i_ne_bl ?_)
  | (with_reducible refine i_in_sg ?_)
  | (with_reducible refine i_notIn_sg ?_)
  | (with_reducible refine i_call ?_)
  | (with_reducible refine i_callS ?_)
  | (with_reducible refine i_sp1 ?_)
  | (with_reducible refine i_sp2 ?_)
  | (with_reducible refine i_sp3 ?_)
  | (with_reducible refine i_sp4 ?_)
  | (with_reducible refine i_sp1' ?_)
  | (with_reducible refine i_sp2' ?_)
  | (with_reducible refine i_sp3' ?_)
  | ((with_reducible refine' i_ix_lst ?h1 ?h2 ?_); (case h1 => walk_at "sq"); (case h2 => first | exact atI_nat rfl | rfl))
  | ((with_reducible refine' i_ix_tup ?h1 ?h2 ?_); (case h1 => walk_at "st"); (case h2 => first | exact atI_nat rfl | rfl))
  | (with_reducible refine i_gsub ?_)
  | (with_reducible refine i_par ?_)
  | (with_reducible refine i_lstRg1 ?_)
  | (with_reducible refine i_app ?_)
  | (with_reducible refine i_par2 ?_)
  | ((with_reducible refine' i_aug ?h1 ?_); (case h1 => rfl))
  | (with_reducible refine i_ipI ?_)
  | ((with_reducible refine' i_gtup2 ?h1 ?_); (case h1 => walk_at "st"))
  | (with_reducible refine i_int_bl ?_)
  | (with_reducible refine i_raise ?_)
  | (with_reducible refine i_mkE ?_)
  | (with_reducible refine i_ex1 ?_)
  | (with_reducible refine i_and ?_)
  | (with_reducible refine i_or ?_)
  | (with_reducible refine i_not ?_)
  | (with_reducible refine i_tt ?_)
  | (with_reducible refine i_ff ?_)
  | (with_reducible refine i_nott ?_)
  | (with_reducible refine i_notf ?_)
  | (with_reducible refine i_andV ?_)
  | (with_reducible refine i_orV ?_)
  | (with_reducible refine i_notV ?_)
  | (with_reducible refine i_ifE ?_)
  | (with_reducible refine i_tup ?_)
  | (with_reducible refine i_lst ?_)
  | (with_reducible refine i_un ?_)
  | (with_reducible refine i_neg ?_)
  | (with_reducible refine i_chain ?_)
  | (with_reducible refine i_next ?_)
  | (with_reducible refine i_retN ?_)
  | (with_reducible refine i_drop ?_)
  | (with_reducible refine i_int_int ?_)
  | (with_reducible refine i_abs ?_)
  | (with_reducible refine i_m1c ?_)
  | (with_reducible refine i_is_non ?_)
  | (with_reducible refine i_is_int ?_)
  | (with_reducible refine i_is_bl ?_)
  | (with_reducible refine i_isn_bl ?_)
  | (with_reducible refine i_is_str ?_)
  | (with_reducible refine i_is_ref ?_)
  | (with_reducible refine i_isn_non ?_)
  | (with_reducible refine i_isn_int ?_)
  | (with_reducible refine i_isn_str ?_)
  | (with_reducible refine i_isn_ref ?_)
  | (with_reducible refine i_len_str ?h1 ?_; (case h1 => walk_at "o"))
  | (with_reducible refine i_callD ?_)
  | (with_reducible refine i_spD2 ?_)
  | (with_reducible refine i_spM1 ?_)
  | (with_reducible refine i_spM2 ?_)
  | (with_reducible refine i_spM3 ?_)
  | (with_reducible refine i_spM4 ?_)
  | (with_reducible refine i_spM3d ?_)
  | (with_reducible refine i_tfld ?_)
  | (with_reducible refine i_sfld ?_)
  | (with_reducible refine i_meth ?_)
  | (with_reducible refine i_make ?_)
  | (with_reducible refine i_spl ?_)
  | (with_reducible refine i_mkE2 ?_)
  | (with_reducible refine i_ex2 ?_)
  | (with_reducible refine i_dget ?_)
  | (with_reducible refine i_tru ?_)
  | (with_reducible refine i_dput ?_)
  | (with_reducible refine i_dnotin ?_)
  | (with_reducible refine i_din ?_)
  | (with_reducible refine i_isi_int_int ?_) | (with_reducible refine i_isi_int_bool ?_) | (with_reducible refine i_isi_int_str ?_) | (with_reducible refine i_isi_int_tuple ?_) | (with_reducible refine i_isi_int_list ?_)
  | (with_reducible refine i_isi_bl_int ?_) | (with_reducible refine i_isi_bl_bool ?_) | (with_reducible refine i_isi_bl_str ?_) | (with_reducible refine i_isi_bl_tuple ?_) | (with_reducible refine i_isi_bl_list ?_)
  | (with_reducible refine i_isi_str_int ?_) | (with_reducible refine i_isi_str_bool ?_) | (with_reducible refine i_isi_str_str ?_) | (with_reducible refine i_isi_str_tuple ?_) | (with_reducible refine i_isi_str_list ?_)
  | (with_reducible refine i_isi_non_int ?_) | (with_reducible refine i_isi_non_bool ?_) | (with_reducible refine i_isi_non_str ?_) | (with_reducible refine i_isi_non_tuple ?_) | (with_reducible refine i_isi_non_list ?_))
local macro_rules | `(tactic| walk_at "go") => `(tactic| (repeat' (walk_at "s")))
local macro_rules | `(tactic| walk_at "n") => `(tactic| simp only [wipe, List.map_cons, List.map_nil, List.set_cons_zero, List.set_cons_succ])
def isShort : V → Bool
  | .str x => decide (x.cps.toList.length ≤ 100)
  | _ => false
theorem short_of {v : V} (h : isShort v = true) : ∃ w, v = S w ∧ w.length ≤ 100 := by
  cases v with
  | str x => exact ⟨x.cps.toList, rfl, of_decide_eq_true h⟩
  | _ => cases h
theorem pick_of {xs : List V} (h : xs.all isShort = true) {n : Int} (b : Btw n (xs.length : Int)) (h2 : 2 ≤ xs.length) : ∃ w, atI xs n = some (S w) ∧ w.length ≤ 100 := by
  have n0 := b.1
  have n1 := b.2.1 (by omega)
  have hn : n.toNat < xs.length := by omega
  obtain ⟨w, e, hw⟩ := short_of (List.all_eq_true.mp h (xs[n.toNat]) (List.getElem_mem hn))
  exact ⟨w, atI_int n0 (by rw [List.getElem?_eq_getElem hn, e]), hw⟩
theorem pick_at {H : Hp} {l : Addr} {xs : List V} {n many : Int} (_h : H l = some (.lst xs)) (ha : xs.all isShort = true) (hl : (xs.length : Int) = many) (b : Btw n many) (h2 : 2 ≤ many) : ∃ w, atI xs n = some (S w) ∧ w.length ≤ 100 := by
  subst hl
  exact pick_of ha b (by omega)
section
variable {P : Program} {w : World} {K : PySem.W.Frag} {mg : Str → Option Value} {base : Heap} {C_GlimError C_BadLine C_BadWeather C_Lines : Addr}
def p_L_word (K : PySem.W.Frag) : P1 := fun x H Q _ => ∃ (Hk : Hp) (dd : Dd), x = .ref dd.a ∧ Dr K dd Hk H ∧ ∀ w H', Dr K dd Hk H' → w.length ≤ 100 → Q (S w) H'
theorem ok_L_word (T : Txt K mg C_GlimError C_BadLine C_BadWeather C_Lines) : OK P w K mg base CX0 3 "_law_word" ["_law_draw_here"] (sp1  (p_L_word K)) := by
  refine OK.mk (k := 2) T.d_L_word sc_L_word len1 fun f cdv A outer s H vs Q E hr h => ?_
  obtain ⟨x, rfl, h⟩ := h
  refine ⟨_, (pss_cons (ps_set (i := 1) sc_L_word.nd rfl (Or.inl rfl) (pe_lst (pa_cons (pe_S [108, 111, 115, 101]) (pa_cons (pe_S [109, 105, 115, 115]) (pa_cons (pe_S [116, 97, 107, 101]) (pa_cons (pe_S [97, 108, 119, 97, 121, 115]) (pa_cons (pe_S [103, 108, 111, 119]) (pa_cons (pe_S [108, 97, 116, 101]) (pa_cons (pe_S [49]) (pa_cons (pe_S [50]) (pa_cons (pe_S [51]) (pa_cons (pe_S [56]) (pa_cons (pe_S [57]) (pa_cons (pe_S [48]) (pa_cons (pe_S [49, 48]) (pa_cons (pe_S [48, 49]) (pa_cons (pe_S [45, 49]) (pa_cons (pe_S [43, 51]) pa_nil)))))))))))))))))) (pss_cons (ps_set (i := 1) sc_L_word.nd rfl (Or.inl rfl) (pe_op (opAdd K) (pv 1) (pe_lst (pa_cons (pe_S [50, 46]) (pa_cons (pe_S [46]) (pa_cons (pe_S [103]) (pa_cons (pe_S [114]) (pa_cons (pe_S [119]) (pa_cons (pe_S [119, 119]) (pa_cons (pe_S [120]) (pa_cons (pe_S []) (pa_cons (pe_S [76, 111, 115, 101]) (pa_cons (pe_S [102, 111, 103]) (pa_cons (pe_S [101, 110, 100]) (pa_cons (pe_S [45]) (pa_cons (pe_S [39, 49, 39]) (pa_cons (pe_S [49, 95, 48]) pa_nil))))))))))))))))) (pss_one (ps_ret (pe_ix (ixK K) (pv 1) (pe_f (ok_L_pick (K := K) T) (hr.mono (by decide)) pass0 (pa_cons (pv 0) (pa_cons (pe_callB (cLen K) (by rfl) T.b_len (by decide +kernel) (pa_cons (pv 1) pa_nil)) pa_nil))) (fun _ _ => rfl)))))), ?_⟩
  show (_ : TS) { nx := fun _ H' => Q .non H', rt := Q } [some x, none] H
  obtain ⟨Hk, dd, rfl, dr, q⟩ := h
  walk_at "go"
  refine i_new (by show 16 ≤ 100000; omega) fun l1 n1 => ?_
  walk_at "go"
  refine i_new (by show 14 ≤ 100000; omega) fun l2 n2 => ?_
  have ne : l1 ≠ l2 := fun e => by rw [e, upd_same] at n2; cases n2
  refine i_catL ((upd_ne ne).trans upd_same) upd_same (by show 16 + 14 ≤ 100000; omega) fun l3 n3 => ?_
  walk_at "go"
  refine i_len_lst (.inl (.inl upd_same)) ?_
  walk_at "go"
  refine ⟨_, dd, _, rfl, rfl, ((dr.same (same_upd n1)).same (same_upd n2)).new n3, by show (30 : Int) ≤ _; decide, fun n H2 dr2 b => ?_⟩
  obtain ⟨w, hw, wl⟩ := pick_of (by rfl) b (by show 2 ≤ 30; decide)
  refine i_ix_lst (.inl (.inl (dr2.old upd_same))) hw ?_
  exact q w _ (dr2.less dr.cells (((dr.same (same_upd n1)).same (same_upd n2)).free n3)) wl
def p_L_near (K : PySem.W.Frag) : P1 := p_L_word K
theorem ok_L_near (T : Txt K mg C_GlimError C_BadLine C_BadWeather C_Lines) : OK P w K mg base CX0 3 "_law_near" ["_law_draw_here"] (sp1  (p_L_near K)) := by
  refine OK.mk (k := 2) T.d_L_near sc_L_near len1 fun f cdv A outer s H vs Q E hr h => ?_
  obtain ⟨x, rfl, h⟩ := h
  refine ⟨_, (pss_cons (ps_set (i := 1) sc_L_near.nd rfl (Or.inl rfl) (pe_lst (pa_cons (pe_S [116, 97, 107, 101, 32, 46, 32, 119]) (pa_cons (pe_S [97, 108, 119, 97, 121, 115, 32, 46, 32, 103]) (pa_cons (pe_S [116, 97, 107, 101, 32, 119, 32, 119]) (pa_cons (pe_S [97, 108, 119, 97, 121, 115, 32, 114, 32, 114]) (pa_cons (pe_S [109, 105, 115, 115, 32, 50, 32, 50]) (pa_cons (pe_S [109, 105, 115, 115, 32, 51, 32, 56]) (pa_cons (pe_S [109, 105, 115, 115, 32, 49, 32, 57]) (pa_cons (pe_S [109, 105, 115, 115, 32, 49, 32, 49]) (pa_cons (pe_S [108, 111, 115, 101, 32, 48]) pa_nil))))))))))) (pss_cons (ps_set (i := 1) sc_L_near.nd rfl (Or.inl rfl) (pe_op (opAdd K) (pv 1) (pe_lst (pa_cons (pe_S [108, 111, 115, 101, 32, 49, 48]) (pa_cons (pe_S [108, 111, 115, 101, 32, 48, 49]) (pa_cons (pe_S [109, 105, 115, 115, 32, 57, 32, 57]) (pa_cons (pe_S [103, 108, 111, 119, 32]) (pa_cons (pe_S [32, 103, 108, 111, 119]) (pa_cons (pe_S [108, 97, 116, 101, 32, 49]) (pa_cons (pe_S [116, 97, 107, 101, 32, 119]) (pa_cons (pe_S [108, 111, 115, 101]) (pa_cons (pe_S [109, 105, 115, 115, 32, 49]) (pa_cons (pe_S [116, 97, 107, 101]) pa_nil))))))))))))) (pss_one (ps_ret (pe_ix (ixK K) (pe_op (opAdd K) (pv 1) (pe_lst (pa_cons (pe_S []) (pa_cons (pe_S [109, 105, 115, 115, 32, 48, 32, 53]) (pa_cons (pe_S [108, 111, 115, 101, 32, 51, 32, 52]) (pa_cons (pe_S [116, 97, 107, 101, 32, 119, 32, 46, 32, 46]) (pa_cons (pe_S [109, 105, 115, 115, 32, 49, 32, 53, 32]) (pa_cons (pe_S [97, 108, 119, 97, 121, 115, 32, 103]) pa_nil)))))))) (pe_f (ok_L_pick (K := K) T) (hr.mono (by decide)) pass0 (pa_cons (pv 0) (pa_cons pe_int pa_nil))) (fun _ _ => rfl)))))), ?_⟩
  show (_ : TS) { nx := fun _ H' => Q .non H', rt := Q } [some x, none] H
  obtain ⟨Hk, dd, rfl, dr, q⟩ := h
  walk_at "go"
  refine i_new (by show 9 ≤ 100000; omega) fun l1 n1 => ?_
  walk_at "go"
  refine i_new (by show 10 ≤ 100000; omega) fun l2 n2 => ?_
  have ne : l1 ≠ l2 := fun e => by rw [e, upd_same] at n2; cases n2
  refine i_catL ((upd_ne ne).trans upd_same) upd_same (by show 9 + 10 ≤ 100000; omega) fun l3 n3 => ?_
  walk_at "go"
  refine i_new (by show 6 ≤ 100000; omega) fun l4 n4 => ?_
  have ne2 : l3 ≠ l4 := fun e => by rw [e, upd_same] at n4; cases n4
  refine i_catL ((upd_ne ne2).trans upd_same) upd_same (by show 19 + 6 ≤ 100000; omega) fun l5 n5 => ?_
  walk_at "go"
  refine ⟨_, dd, 25, rfl, rfl, ((((dr.same (same_upd n1)).same (same_upd n2)).same (same_upd n3)).same (same_upd n4)).new n5, by decide, fun n H2 dr2 b => ?_⟩
  have hx := dr2.old upd_same
  obtain ⟨w, hw, wl⟩ := pick_at hx (by rfl) (by rfl) b (by decide)
  refine i_ix_lst (.inl (.inl hx)) hw ?_
  exact q w _ (dr2.less dr.cells (((((dr.same (same_upd n1)).same (same_upd n2)).same (same_upd n3)).same (same_upd n4)).free n5)) wl
end
end K12
namespace K12
open PySem PySem.Spec PyProof.Rows L2 Fg
local macro_rules | `(tactic| walk_at "sq") => `(tactic| first
  | assumption
  | exact .inl (.inl (by assumption))
  | exact .inl (.inl upd_same))
local macro_rules | `(tactic| walk_at "st") => `(tactic| first
  | assumption
  | exact .inl (.inl (by assumption))
  | exact .inl (.inl upd_same))
local macro_rules | `(tactic| walk_at "o") => `(tactic| first
  | omega
  | assumption
  | (simp only [List.length_append, List.length_take, List.length_drop, List.length_cons, List.length_nil, List.length_singleton, List.length_map, List.length_range, Int.toNat_natCast] ; omega))
local macro_rules | `(tactic| walk_at "s") => `(tactic| first
  | (with_reducible refine i_seq ?_)
  | (with_reducible refine i_asg ?_)
  | ((with_reducible refine' i_var ?h1 ?_); (case h1 => rfl))
  | (with_reducible refine i_c ?_)
  | ((with_reducible refine' i_gname' ?h1 ?_); (case h1 => (simp only [List.set_cons_zero, List.set_cons_succ]; rfl)))
  | (with_reducible refine i_op ?_)
  | (with_reducible refine i_ifS ?_)
  | (with_reducible refine i_for ?_)
  | (with_reducible refine i_test ?_)
  | (with_reducible refine i_B ?_)
  | (with_reducible refine i_exbl ?_)
  | (with_reducible refine i_exint ?_)
  | (with_reducible refine i_cb ?_)
  | (with_reducible refine i_nil ?_)
  | (with_reducible refine i_cons ?_)
  | (with_reducible refine i_ret ?_)
  | (with_reducible refine i_sl ?_)
  | (with_reducible refine i_nopart ?_)
  | (with_reducible refine i_part ?_)
  | (with_reducible refine i_add_int ?_)
  | (with_reducible refine i_sub ?_)
  | (with_reducible refine i_lt ?_)
  | ((with_reducible refine' i_mod ?h1 ?_); (case h1 => walk_at "o"))
  | ((with_reducible refine' i_fdiv ?h1 ?_); (case h1 => (refine cdiv_small ?_ ?_ <;> walk_at "o")))
  | ((with_reducible refine' i_sl_to ?h1 ?h2 ?_); (case h1 => walk_at "o"); (case h2 => walk_at "o"))
  | ((with_reducible refine' i_sl_from ?h1 ?h2 ?_); (case h1 => walk_at "o"); (case h2 => walk_at "o"))
  | ((with_reducible refine' i_add_str ?h1 ?_); (case h1 => walk_at "o"))
  | ((with_reducible refine' i_mul_int ?h1 ?_); (case h1 => first | (refine mul_small ?_ ?_ <;> walk_at "o") | (refine mul_smallR ?_ ?_ <;> walk_at "o")))
  | (with_reducible refine i_le ?_)
  | (with_reducible refine i_gt ?_)
  | (with_reducible refine i_ge ?_)
  | (with_reducible refine i_eq_int ?_)
  | (with_reducible refine i_eq_str ?_)
  | (with_reducible refine i_ne_int ?_)
  | (with_reducible refine i_ne_str ?_)
  | (with_reducible refine i_eq_bl ?_)
  | (with_reducible refine i_ne_bl ?_)
  | (with_reducible refine i_in_sg ?_)
  | (with_reducible refine i_notIn_sg ?_)
  | (with_reducible refine i_call ?_)
  | (with_reducible refine i_callS ?_)
  | (with_reducible refine i_sp1 ?_)
  | (with_reducible refine i_sp2 ?_)
  | (with_reducible refine i_sp3 ?_)
  | (with_reducible refine i_sp4 ?_)
  | (with_reducible refine i_sp1' ?_)
  | (with_reducible refine i_sp2' ?_)
  | (with_reducible refine i_sp3' ?_)
  | ((with_reducible refine' i_ix_lst ?h1 ?h2 ?_); (case h1 => walk_at "sq"); (case h2 => first | exact atI_nat rfl | rfl))
  | ((with_reducible refine' i_ix_tup ?h1 ?h2 ?_); (case h1 => walk_at "st"); (case h2 => first | exact atI_nat rfl | rfl))
  | (with_reducible refine i_gsub ?_)
  | (with_reducible refine i_par ?_)
  | (with_reducible refine i_lstRg1 ?_)
  | (with_reducible refine i_app ?_)
  | (with_reducible refine i_par2 ?_)
  | ((with_reducible refine' i_aug ?h1 ?_); (case h1 => rfl))
  | (with_reducible refine i_ipI ?_)
  | ((with_reducible refine' i_gtup2 ?h1 ?_); (case h1 => walk_at "st"))
  | (with_reducible refine i_int_bl ?_)
  | (with_reducible refine i_raise ?_)
  | (with_reducible refine i_mkE ?_)
  | (with_reducible refine i_ex1 ?_)
  | (with_reducible refine i_and ?_)
  | (with_reducible refine i_or ?_)
  | (with_reducible refine i_not ?_)
  | (with_reducible refine i_tt ?_)
  | (with_reducible refine i_ff ?_)
  | (with_reducible refine i_nott ?_)
  | (with_reducible refine i_notf ?_)
  | (with_reducible refine i_andV ?_)
  | (with_reducible refine i_orV ?_)
  | (with_reducible refine i_notV ?_)
  | (with_reducible refine i_ifE ?_)
  | (with_reducible refine i_tup ?_)
  | (with_reducible refine i_lst ?_)
  | (with_reducible refine i_un ?_)
  | (with_reducible refine i_neg ?_)
  | (with_reducible refine i_chain ?_)
  | (with_reducible refine i_next ?_)
  | (with_reducible refine i_retN ?_)
  | (with_reducible refine i_drop ?_)
  | (with_reducible refine i_int_int ?_)
  | (with_reducible refine i_abs ?_)
  | (with_reducible refine i_m1c ?_)
  | (with_reducible refine i_is_non ?_)
  | (with_reducible refine i_is_int ?_)
  | (with_reducible refine i_is_bl ?_)
  | (with_reducible refine i_isn_bl ?_)
  | (with_reducible refine i_is_str ?_)
  | (with_reducible refine i_is_ref ?_)
  | (with_reducible refine i_isn_non ?_)
  | (with_reducible refine i_isn_int ?_)
  | (with_reducible refine i_isn_str ?_)
  | (with_reducible refine i_isn_ref ?_)
  | (with_reducible refine i_len_str ?h1 ?_; (case h1 => walk_at "o"))
  | (with_reducible refine i_callD ?_)
  | (with_reducible refine i_spD2 ?_)
  | (with_reducible refine i_spM1 ?_)
  | (with_reducible refine i_spM2 ?_)
  | (with_reducible refine i_spM3 ?_)
  | (with_reducible refine i_spM4 ?_)
  | (with_reducible refine i_spM3d ?_)
  | (with_reducible refine i_tfld ?_)
  | (with_reducible refine i_sfld ?_)
  | (with_reducible refine i_meth ?_)
  | (with_reducible refine i_make ?_)
  | (with_reducible refine i_spl ?_)
  | (with_reducible refine i_mkE2 ?_)
  | (with_reducible refine i_ex2 ?_)
  | (with_reducible refine i_dget ?_)
  | (with_reducible refine i_tru ?_)
  | (with_reducible refine i_dput ?_)
  | (with_reducible refine i_dnotin ?_)
  | (with_reducible refine i_din ?_)
  | (with_reducible refine i_isi_int_int ?_) | (with_reducible refine i_isi_int_bool ?_) | (with_reducible refine i_isi_int_str ?_) | (with_reducible refine i_isi_int_tuple ?_) | (with_reducible refine i_isi_int_list ?_)
  | (with_reducible refine i_isi_bl_int ?_) | (with_reducible refine i_isi_bl_bool ?_) | (with_reducible refine i_isi_bl_str ?_) | (with_reducible refine i_isi_bl_tuple ?_) | (with_reducible refine i_isi_bl_list ?_)
  | (with_reducible refine i_isi_str_int ?_) | (with_reducible refine i_isi_str_bool ?_) | (with_reducible refine i_isi_str_str ?_) | (with_reducible refine i_isi_str_tuple ?_) | (with_reducible refine i_isi_str_list ?_)
  | (with_reducible refine i_isi_non_int ?_) | (with_reducible refine i_isi_non_bool ?_) | (with_reducible refine i_isi_non_str ?_) | (with_reducible refine i_isi_non_tuple ?_) | (with_reducible refine i_isi_non_list ?_))
local macro_rules | `(tactic| walk_at "go") => `(tactic| (repeat' (walk_at "s")))
local macro_rules | `(tactic| walk_at "n") => `(tactic| simp only [wipe, List.map_cons, List.map_nil, List.set_cons_zero, List.set_cons_succ])
/-- values that are data in any heap -/
def Sc (xs : List V) (ds : List PyData) : Prop := (∀ B, AtAll B xs ds) ∧ FlatT ds
theorem Sc.cut {xs : List V} {ds : List PyData} (h : Sc xs ds) (lo hi : Option Int) : ∃ es, Sc (cutV xs lo hi) es := by
  refine ⟨(ds.drop (HT.sIx xs.length 0 lo)).take (HT.sIx xs.length xs.length hi - HT.sIx xs.length 0 lo), fun B => ((h.1 B).drop _).take _, fun d hd => ?_⟩
  exact h.2 d (List.mem_of_mem_drop (List.mem_of_mem_take hd))
theorem Sc.app {xs ys : List V} {ds es : List PyData} (h : Sc xs ds) (k : Sc ys es) : Sc (xs ++ ys) (ds ++ es) :=
  ⟨fun B => (h.1 B).app (k.1 B), fun d hd => (List.mem_append.mp hd).elim (h.2 d) (k.2 d)⟩
def isScV : V → Bool
  | .str x => decide (x.cps.toList.length ≤ 100)
  | .non | .bl _ | .int _ => true
  | _ => false
theorem sc_of {v : V} (h : isScV v = true) : ∃ d, Sc [v] [d] := by
  have one : ∀ {d : PyData}, (∀ B, At B v d) → flatD d = true → Sc [v] [d] := fun h1 h2 => ⟨fun B => .one (h1 B), fun e he => by rw [List.mem_singleton.mp he]; exact h2⟩
  cases v with
  | str x => exact ⟨_, one (fun B => .str x.cps.toList (Nat.le_trans (of_decide_eq_true h) (by decide))) rfl⟩
  | non => exact ⟨_, one (fun B => .non) rfl⟩
  | bl b => exact ⟨_, one (fun B => .bl b) rfl⟩
  | int i => exact ⟨_, one (fun B => .int i) rfl⟩
  | _ => cases h
theorem pick_sc {H : Hp} {l : Addr} {xs : List V} {n many : Int} (_h : H l = some (.lst xs)) (ha : xs.all isScV = true) (hl : (xs.length : Int) = many) (b : Btw n many) (h2 : 2 ≤ many) : ∃ v d, atI xs n = some v ∧ Sc [v] [d] := by
  subst hl
  have n0 := b.1
  have n1 := b.2.1 h2
  have hn : n.toNat < xs.length := by omega
  obtain ⟨d, hd⟩ := sc_of (List.all_eq_true.mp ha (xs[n.toNat]) (List.getElem_mem hn))
  exact ⟨_, d, atI_int n0 (List.getElem?_eq_getElem hn), hd⟩
theorem grow {K : PySem.W.Frag} {dd : Dd} {Hk H H' : Hp} {r : Addr} {o : HO} (dr : Dr K dd Hk H) (h : Hk r = some o ∧ H' = H ∨ H r = none ∧ H' = upd H r o) : ∃ Hk', Same Hk Hk' ∧ Dr K dd Hk' H' ∧ Hk' r = some o := by
  rcases h with ⟨e, rfl⟩ | ⟨n, rfl⟩
  · exact ⟨Hk, Same.refl _, dr, e⟩
  · exact ⟨upd Hk r o, same_upd (dr.free n), dr.new n, upd_same⟩
section
variable {P : Program} {w : World} {K : PySem.W.Frag} {mg : Str → Option Value} {base : Heap} {C_GlimError C_BadLine C_BadWeather C_Lines : Addr}
def p_L_odd (K : PySem.W.Frag) : P2 := fun x y H Q _ => ∃ Hk dd a xs ds, x = .ref dd.a ∧ y = .ref a ∧ Dr K dd Hk H ∧ Hk a = some (.tup xs) ∧ xs.length ≤ 3 ∧ Sc xs ds ∧
  ∀ Hk' H' r ys es, Same Hk Hk' → Dr K dd Hk' H' → Hk' r = some (.tup ys) → Sc ys es → ys.length ≤ 7 → Q (.ref r) H'
theorem ok_L_odd (T : Txt K mg C_GlimError C_BadLine C_BadWeather C_Lines) : OK P w K mg base CX0 3 "_law_odd" ["_law_draw_here", "_law_weather_here"] (sp2  (p_L_odd K)) := by
  refine OK.mk (k := 2) T.d_L_odd sc_L_odd len2 fun f cdv A outer s H vs Q E hr h => ?_
  obtain ⟨x, y, rfl, h⟩ := h
  refine ⟨_, (pss_cons (ps_set (i := 2) sc_L_odd.nd rfl (Or.inl rfl) (pe_f (ok_L_pick (K := K) T) (hr.mono (by decide)) pass0 (pa_cons (pv 0) (pa_cons (pe_op (opAdd K) (pe_callB (cLen K) (by rfl) T.b_len (by decide +kernel) (pa_cons (pv 1) pa_nil)) pe_int) pa_nil)))) (pss_cons (ps_set (i := 3) sc_L_odd.nd rfl (Or.inl rfl) (pe_ix (ixK K) (pe_lst (pa_cons pe_int (pa_cons pe_int (pa_cons pe_int (pa_cons pe_int (pa_cons pe_int (pa_cons pe_bl (pa_cons pe_non (pa_cons (pe_S []) (pa_cons (pe_S [119]) (pa_cons (pe_S [46]) (pa_cons (pe_S [108, 111, 115, 101]) (pa_cons (pe_S [103, 108, 111, 119]) pa_nil))))))))))))) (pe_f (ok_L_pick (K := K) T) (hr.mono (by decide)) pass0 (pa_cons (pv 0) (pa_cons pe_int pa_nil))) (fun _ _ => rfl))) (pss_cons (ps_set (i := 4) sc_L_odd.nd rfl (Or.inl rfl) (pe_f (ok_L_pick (K := K) T) (hr.mono (by decide)) pass0 (pa_cons (pv 0) (pa_cons pe_int pa_nil)))) (pss_cons (ps_if (pt_cmpR (opEq K hr.units) (pv 4) pe_int (nomark _)) (pss_one (ps_ret (pe_op (opAdd K) (pe_slice (slK K) (pv 1) po_none (po_some (pv 2))) (pe_slice (slK K) (pv 1) (po_some (pe_op (opAdd K) (pv 2) pe_int)) po_none)))) pss_nil) (pss_cons (ps_if (pt_cmpR (opEq K hr.units) (pv 4) pe_int (nomark _)) (pss_one (ps_ret (pe_op (opAdd K) (pe_op (opAdd K) (pe_slice (slK K) (pv 1) po_none (po_some (pv 2))) (pe_tup (pa_cons (pv 3) pa_nil))) (pe_slice (slK K) (pv 1) (po_some (pv 2)) po_none)))) pss_nil) (pss_one (ps_ret (pe_op (opAdd K) (pe_op (opAdd K) (pe_slice (slK K) (pv 1) po_none (po_some (pv 2))) (pe_tup (pa_cons (pv 3) pa_nil))) (pe_slice (slK K) (pv 1) (po_some (pe_op (opAdd K) (pv 2) pe_int)) po_none))))))))), ?_⟩
  show (_ : TS) { nx := fun _ H' => Q .non H', rt := Q } [some x, some y, none, none, none] H
  obtain ⟨Hk, dd, a, xs, ds, rfl, rfl, dr, ha, hl, sc, q⟩ := h
  have cl := fun lo hi => cutV_length xs lo hi
  -- a part of the weather, another thing put to it
  have part : ∀ {Hj H1 : Hp} (lo hi : Option Int) {R : VK}, Same Hk Hj → Dr K dd Hj H1 → (∀ r Hi H2, Same Hj Hi → Dr K dd Hi H2 → Hi r = some (.tup (cutV xs lo hi)) → R (.ref r) H2) → slP K (.ref a) lo hi H1 R := fun {Hj H1} lo hi {R} s d k =>
    i_slTup (d.old (s _ _ ha)) fun r H2 _ hr alt => by
      have alt' : Hj r = some (.tup (cutV xs lo hi)) ∧ H2 = H1 ∨ H1 r = none ∧ H2 = upd H1 r (.tup (cutV xs lo hi)) := by
        rcases alt with ⟨z, rfl⟩ | z
        · subst z
          rw [d.old (s _ _ ha)] at hr
          exact .inl ⟨by rw [s _ _ ha]; exact hr, rfl⟩
        · exact .inr z
      obtain ⟨Hi, s2, d2, e2⟩ := grow d alt'
      exact k r Hi H2 s2 d2 e2
  have cat : ∀ {Hj H1 : Hp} {u w : Addr} {us ws : List V} {R : VK}, Dr K dd Hj H1 → Hj u = some (.tup us) → Hj w = some (.tup ws) → us.length + ws.length ≤ 1000 → (∀ r Hi H2, Same Hj Hi → Dr K dd Hi H2 → Hi r = some (.tup (us ++ ws)) → R (.ref r) H2) → addP K (.ref u) (.ref w) H1 R := fun {Hj H1 u w us ws R} d h1 h2 hz k =>
    i_catT (d.old h1) (d.old h2) hz fun r H2 _ hr alt => by
      have alt' : Hj r = some (.tup (us ++ ws)) ∧ H2 = H1 ∨ H1 r = none ∧ H2 = upd H1 r (.tup (us ++ ws)) := by
        rcases alt with ⟨z | z, rfl⟩ | z
        · subst z
          rw [d.old h1] at hr
          exact .inl ⟨by rw [h1]; exact hr, rfl⟩
        · subst z
          rw [d.old h2] at hr
          exact .inl ⟨by rw [h2]; exact hr, rfl⟩
        · exact .inr z
      obtain ⟨Hi, s2, d2, e2⟩ := grow d alt'
      exact k r Hi H2 s2 d2 e2
  walk_at "go"
  refine i_len_tup (.inl (.inl (dr.old ha))) ?_
  walk_at "go"
  refine ⟨Hk, dd, _, rfl, rfl, dr, by omega, fun n H1 dr1 bn => ?_⟩
  walk_at "go"
  refine i_new (by show 12 ≤ 100000; omega) fun l1 n1 => ?_
  walk_at "go"
  refine ⟨_, dd, 12, rfl, rfl, dr1.new n1, by decide, fun m H2 dr2 bm => ?_⟩
  have hx := dr2.old upd_same
  obtain ⟨v, d, hv, sv⟩ := pick_sc hx (by rfl) (by rfl) bm (by decide)
  have s0 : ∀ o, Same Hk (upd Hk l1 o) := fun o => same_upd (dr1.free n1)
  refine i_ix_lst (.inl (.inl hx)) hv ?_
  walk_at "go"
  refine ⟨_, dd, 4, rfl, rfl, dr2, by decide, fun k H3 dr3 bk => ?_⟩
  walk_at "go"
  refine i_dec (fun e0 => ?_) (fun e0 => ?_)
  · walk_at "go"
    refine part none (some n) (s0 _) dr3 fun r1 J1 G1 s1 g1 e1 => ?_
    walk_at "go"
    refine part (some (n + 1)) none ((s0 _).trans s1) g1 fun r2 J2 G2 s2 g2 e2 => ?_
    have c1 := cl none (some n)
    have c2 := cl (some (n + 1)) none
    refine cat g2 (s2 _ _ e1) e2 (by omega) fun r3 J3 G3 s3 g3 e3 => ?_
    obtain ⟨es1, k1⟩ := sc.cut none (some n)
    obtain ⟨es2, k2⟩ := sc.cut (some (n + 1)) none
    exact q J3 G3 r3 _ _ ((((s0 _).trans s1).trans s2).trans s3) g3 e3 (k1.app k2) (by rw [List.length_append]; omega)
  walk_at "go"
  refine i_dec (fun e4 => ?_) (fun e4 => ?_)
  · walk_at "go"
    refine part none (some n) (s0 _) dr3 fun r1 J1 G1 s1 g1 e1 => ?_
    walk_at "go"
    refine i_new (by show 1 ≤ 100000; omega) fun t nt => ?_
    have gt := g1.new (o := .tup [v]) nt
    have st := same_upd (o := .tup [v]) (g1.free nt)
    have c1 := cl none (some n)
    have c2 := cl (some n) none
    refine cat gt (st _ _ e1) upd_same (by show _ + 1 ≤ 1000; omega) fun r3 J3 G3 s3 g3 e3 => ?_
    walk_at "go"
    refine part (some n) none ((((s0 _).trans s1).trans st).trans s3) g3 fun r2 J2 G2 s2 g2 e2 => ?_
    refine cat g2 (s2 _ _ e3) e2 (by rw [List.length_append]; show _ + 1 + _ ≤ 1000; omega) fun r5 J5 G5 s5 g5 e5 => ?_
    obtain ⟨es1, k1⟩ := sc.cut none (some n)
    obtain ⟨es2, k2⟩ := sc.cut (some n) none
    exact q J5 G5 r5 _ _ ((((((s0 _).trans s1).trans st).trans s3).trans s2).trans s5) g5 e5 ((k1.app sv).app k2) (by rw [List.length_append, List.length_append]; show _ + 1 + _ ≤ 7; omega)
  · walk_at "go"
    refine part none (some n) (s0 _) dr3 fun r1 J1 G1 s1 g1 e1 => ?_
    walk_at "go"
    refine i_new (by show 1 ≤ 100000; omega) fun t nt => ?_
    have gt := g1.new (o := .tup [v]) nt
    have st := same_upd (o := .tup [v]) (g1.free nt)
    have c1 := cl none (some n)
    have c2 := cl (some (n + 1)) none
    refine cat gt (st _ _ e1) upd_same (by show _ + 1 ≤ 1000; omega) fun r3 J3 G3 s3 g3 e3 => ?_
    walk_at "go"
    refine part (some (n + 1)) none ((((s0 _).trans s1).trans st).trans s3) g3 fun r2 J2 G2 s2 g2 e2 => ?_
    refine cat g2 (s2 _ _ e3) e2 (by rw [List.length_append]; show _ + 1 + _ ≤ 1000; omega) fun r5 J5 G5 s5 g5 e5 => ?_
    obtain ⟨es1, k1⟩ := sc.cut none (some n)
    obtain ⟨es2, k2⟩ := sc.cut (some (n + 1)) none
    exact q J5 G5 r5 _ _ ((((((s0 _).trans s1).trans st).trans s3).trans s2).trans s5) g5 e5 ((k1.app sv).app k2) (by rw [List.length_append, List.length_append]; show _ + 1 + _ ≤ 7; omega)
end
end K12
namespace K12
open PySem PySem.Spec PyProof.Rows L2 Fg
local macro_rules | `(tactic| walk_at "sq") => `(tactic| first
  | assumption
  | exact .inl (.inl (by assumption))
  | exact .inl (.inl upd_same))
local macro_rules | `(tactic| walk_at "st") => `(tactic| first
  | assumption
  | exact .inl (.inl (by assumption))
  | exact .inl (.inl upd_same))
local macro_rules | `(tactic| walk_at "o") => `(tactic| first
  | omega
  | assumption
  | (simp only [List.length_append, List.length_take, List.length_drop, List.length_cons, List.length_nil, List.length_singleton, List.length_map, List.length_range, Int.toNat_natCast] ; omega))
local macro_rules | `(tactic| walk_at "s") => `(tactic| first
  | (with_reducible refine i_seq ?_)
  | (with_reducible refine i_asg ?_)
  | ((with_reducible refine' i_var ?h1 ?_); (case h1 => rfl))
  | (with_reducible refine i_c ?_)
  | ((with_reducible refine' i_gname' ?h1 ?_); (case h1 => (simp only [List.set_cons_zero, List.set_cons_succ]; rfl)))
  | (with_reducible refine i_op ?_)
  | (with_reducible refine i_ifS ?_)
  | (with_reducible refine i_for ?_)
  | (with_reducible refine i_test ?_)
  | (with_reducible refine i_B ?_)
  | (with_reducible refine i_exbl ?_)
  | (with_reducible refine i_exint ?_)
  | (with_reducible refine i_cb ?_)
  | (with_reducible refine i_nil ?_)
  | (with_reducible refine i_cons ?_)
  | (with_reducible refine i_ret ?_)
  | (with_reducible refine i_sl ?_)
  | (with_reducible refine i_nopart ?_)
  | (with_reducible refine i_part ?_)
  | (with_reducible refine i_add_int ?_)
  | (with_reducible refine i_sub ?_)
  | (with_reducible refine i_lt ?_)
  | ((with_reducible refine' i_mod ?h1 ?_); (case h1 => walk_at "o"))
  | ((with_reducible refine' i_fdiv ?h1 ?_); (case h1 => (refine cdiv_small ?_ ?_ <;> walk_at "o")))
  | ((with_reducible refine' i_sl_to ?h1 ?h2 ?_); (case h1 => walk_at "o"); (case h2 => walk_at "o"))
  | ((with_reducible refine' i_sl_from ?h1 ?h2 ?_); (case h1 => walk_at "o"); (case h2 => walk_at "o"))
  | ((with_reducible refine' i_add_str ?h1 ?_); (case h1 => walk_at "o"))
  | ((with_reducible refine' i_mul_int ?h1 ?_); (case h1 => first | (refine mul_small ?_ ?_ <;> walk_at "o") | (refine mul_smallR ?_ ?_ <;> walk_at "o")))
  | (with_reducible refine i_le ?_)
  | (with_reducible refine i_gt ?_)
  | (with_reducible refine i_ge ?_)
  | (with_reducible refine i_eq_int ?_)
  | (with_reducible refine i_eq_str ?_)
  | (with_reducible refine i_ne_int ?_)
  | (with_reducible refine i_ne_str ?_)
  | (with_reducible refine i_eq_bl ?_)
  | (with_reducible refine i_ne_bl ?_)
  | (with_reducible refine i_in_sg ?_)
  | (with_reducible refine i_notIn_sg ?_)
  | (with_reducible refine i_call ?_)
  | (with_reducible refine i_callS ?_)
  | (with_reducible refine i_sp1 ?_)
  | (with_reducible refine i_sp2 ?_)
  | (with_reducible refine i_sp3 ?_)
  | (with_reducible refine i_sp4 ?_)
  | (with_reducible refine i_sp1' ?_)
  | (with_reducible refine i_sp2' ?_)
  | (with_reducible refine i_sp3' ?_)
  | ((with_reducible refine' i_ix_lst ?h1 ?h2 ?_); (case h1 => walk_at "sq"); (case h2 => first | exact atI_nat rfl | rfl))
  | ((with_reducible refine' i_ix_tup ?h1 ?h2 ?_); (case h1 => walk_at "st"); (case h2 => first | exact atI_nat rfl | rfl))
  | (with_reducible refine i_gsub ?_)
  | (with_reducible refine i_par ?_)
  | (with_reducible refine i_lstRg1 ?_)
  | (with_reducible refine i_app ?_)
  | (with_reducible refine i_par2 ?_)
  | ((with_reducible refine' i_aug ?h1 ?_); (case h1 => rfl))
  | (with_reducible refine i_ipI ?_)
  | ((with_reducible refine' i_gtup2 ?h1 ?_); (case h1 => walk_at "st"))
  | (with_reducible refine i_int_bl ?_)
  | (with_reducible refine i_raise ?_)
  | (with_reducible refine i_mkE ?_)
  | (with_reducible refine i_ex1 ?_)
  | (with_reducible refine i_and ?_)
  | (with_reducible refine i_or ?_)
  | (with_reducible refine i_not ?_)
  | (with_reducible refine i_tt ?_)
  | (with_reducible refine i_ff ?_)
  | (with_reducible refine i_nott ?_)
  | (with_reducible refine i_notf ?_)
  | (with_reducible refine i_andV ?_)
  | (with_reducible refine i_orV ?_)
  | (with_reducible refine i_notV ?_)
  | (with_reducible refine i_ifE ?_)
  | (with_reducible refine i_tup ?_)
  | (with_reducible refine i_lst ?_)
  | (with_reducible refine i_un ?_)
  | (with_reducible refine i_neg ?_)
  | (with_reducible refine i_chain ?_)
  | (with_reducible refine i_next ?_)
  | (with_reducible refine i_retN ?_)
  | (with_reducible refine i_drop ?_)
  | (with_reducible refine i_int_int ?_)
  | (with_reducible refine i_abs ?_)
  | (with_reducible refine i_m1c ?_)
  | (with_reducible refine i_is_non ?_)
  | (with_reducible refine i_is_int ?_)
  | (with_reducible refine i_is_bl ?_)
  | (with_reducible refine i_isn_bl ?_)
  | (with_reducible refine i_is_str ?_)
  | (with_reducible refine i_is_ref ?_)
  | (with_reducible refine i_isn_non ?_)
  | (with_reducible refine i_isn_int ?_)
  | (with_reducible refine i_isn_str ?_)
  | (with_reducible refine i_isn_ref ?_)
  | (with_reducible refine i_len_str ?h1 ?_; (case h1 => walk_at "o"))
  | (with_reducible refine i_callD ?_)
  | (with_reducible refine i_spD2 ?_)
  | (with_reducible refine i_spM1 ?_)
  | (with_reducible refine i_spM2 ?_)
  | (with_reducible refine i_spM3 ?_)
  | (with_reducible refine i_spM4 ?_)
  | (with_reducible refine i_spM3d ?_)
  | (with_reducible refine i_tfld ?_)
  | (with_reducible refine i_sfld ?_)
  | (with_reducible refine i_meth ?_)
  | (with_reducible refine i_make ?_)
  | (with_reducible refine i_spl ?_)
  | (with_reducible refine i_mkE2 ?_)
  | (with_reducible refine i_ex2 ?_)
  | (with_reducible refine i_dget ?_)
  | (with_reducible refine i_tru ?_)
  | (with_reducible refine i_dput ?_)
  | (with_reducible refine i_dnotin ?_)
  | (with_reducible refine i_din ?_)
  | (with_reducible refine i_isi_int_int ?_) | (with_reducible refine i_isi_int_bool ?_) | (with_reducible refine i_isi_int_str ?_) | (with_reducible refine i_isi_int_tuple ?_) | (with_reducible refine i_isi_int_list ?_)
  | (with_reducible refine i_isi_bl_int ?_) | (with_reducible refine i_isi_bl_bool ?_) | (with_reducible refine i_isi_bl_str ?_) | (with_reducible refine i_isi_bl_tuple ?_) | (with_reducible refine i_isi_bl_list ?_)
  | (with_reducible refine i_isi_str_int ?_) | (with_reducible refine i_isi_str_bool ?_) | (with_reducible refine i_isi_str_str ?_) | (with_reducible refine i_isi_str_tuple ?_) | (with_reducible refine i_isi_str_list ?_)
  | (with_reducible refine i_isi_non_int ?_) | (with_reducible refine i_isi_non_bool ?_) | (with_reducible refine i_isi_non_str ?_) | (with_reducible refine i_isi_non_tuple ?_) | (with_reducible refine i_isi_non_list ?_))
local macro_rules | `(tactic| walk_at "go") => `(tactic| (repeat' (walk_at "s")))
local macro_rules | `(tactic| walk_at "n") => `(tactic| simp only [wipe, List.map_cons, List.map_nil, List.set_cons_zero, List.set_cons_succ])
/-- the same weathers, some as lists -/
def Kin (ds es : List PyData) : Prop := es.map deepD = ds ∧ PyData.hasDictAll es = false ∧ PyData.depthAll es ≤ 1
theorem flat_nodict : ∀ {es : List PyData}, FlatT es → PyData.hasDictAll es = false
  | [], _ => rfl
  | d :: r, h => by
    have h1 := h d (List.mem_cons_self ..)
    have h2 := flat_nodict (es := r) fun x hx => h x (List.mem_cons_of_mem _ hx)
    show (d.hasDict || PyData.hasDictAll r) = false
    rw [h2, Bool.or_false]
    cases d <;> first
      | rfl
      | cases h1
theorem flat_depth : ∀ {es : List PyData}, FlatT es → PyData.depthAll es = 0
  | [], _ => rfl
  | d :: r, h => by
    have h1 := h d (List.mem_cons_self ..)
    have h2 := flat_depth (es := r) fun x hx => h x (List.mem_cons_of_mem _ hx)
    show max d.depth (PyData.depthAll r) = 0
    rw [h2]
    cases d <;> first
      | rfl
      | cases h1
theorem hasDict_app : ∀ {es fs : List PyData}, PyData.hasDictAll es = false → PyData.hasDictAll fs = false → PyData.hasDictAll (es ++ fs) = false
  | [], _, _, h => h
  | d :: r, fs, h, k => by
    have h' : (d.hasDict || PyData.hasDictAll r) = false := h
    rw [Bool.or_eq_false_iff] at h'
    show (d.hasDict || PyData.hasDictAll (r ++ fs)) = false
    rw [h'.1, hasDict_app h'.2 k]; rfl
theorem depth_app : ∀ {es fs : List PyData}, PyData.depthAll es ≤ 1 → PyData.depthAll fs ≤ 1 → PyData.depthAll (es ++ fs) ≤ 1
  | [], _, _, h => h
  | d :: r, fs, h, k => by
    have h' : max d.depth (PyData.depthAll r) ≤ 1 := h
    have := Nat.max_le.mp h'
    exact Nat.max_le.mpr ⟨this.1, depth_app this.2 k⟩
theorem Kin.snoc {ds es : List PyData} {d e : PyData} (h : Kin ds es) (h1 : deepD e = d) (h2 : e.hasDict = false) (h3 : e.depth ≤ 1) : Kin (ds ++ [d]) (es ++ [e]) := by
  obtain ⟨a, b, c⟩ := h
  refine ⟨by rw [List.map_append, a, List.map_cons, h1]; rfl, hasDict_app b ?_, depth_app c ?_⟩
  · show (e.hasDict || false) = false
    rw [h2]; rfl
  · show max e.depth 0 ≤ 1
    omega
section
variable {P : Program} {w : World} {K : PySem.W.Frag} {mg : Str → Option Value} {base : Heap} {C_GlimError C_BadLine C_BadWeather C_Lines : Addr}
def p_L_kinds (K : PySem.W.Frag) : P2 := fun x y H Q _ => ∃ Hk dd A ds, x = .ref dd.a ∧ Dr K dd Hk H ∧ Same A Hk ∧ At A y (.list ds) ∧ (∀ d ∈ ds, FlatW d) ∧
  ∀ Hk' H' A' v e es, Ext A Hk A' Hk' → Dr K dd Hk' H' → At A' v e → (e = .list es ∨ e = .tuple es) → Kin ds es → Q v H'
theorem ok_L_kinds (T : Txt K mg C_GlimError C_BadLine C_BadWeather C_Lines) : OK P w K mg base CX0 3 "_law_kinds" ["_law_draw_here", "_law_things"] (sp2  (p_L_kinds K)) := by
  refine OK.mk (k := 2) T.d_L_kinds sc_L_kinds len2 fun f cdv A outer s H vs Q E hr h => ?_
  obtain ⟨x, y, rfl, h⟩ := h
  refine ⟨_, (pss_cons (ps_set (i := 2) sc_L_kinds.nd rfl (Or.inl rfl) (pe_lst pa_nil)) (pss_cons (ps_for PassesOwn.never rfl (piAny K (pv 1)) (pg_name (i := 3) sc_L_kinds.nd rfl (Or.inl rfl)) (pss_one (ps_if (pw_and (pt_val (pe_callB (cIsi K) (by rfl) T.b_isinstance (by decide +kernel) (pa_cons (pv 3) (pa_cons (pe_bltn (v := .ty "tuple") (by rfl) T.b_tuple (by decide +kernel) rfl) pa_nil)))) (pw_and1 (pt_cmpR (opEq K hr.units) (pe_f (ok_L_pick (K := K) T) (hr.mono (by decide)) pass0 (pa_cons (pv 0) (pa_cons pe_int pa_nil))) pe_int (nomark _)))).pt (pss_one (ps_expr (peApp K (pv 2) (pa_cons (pe_callTy (cListP K) (by rfl) T.b_list (by decide +kernel) (pa_cons (pv 3) pa_nil)) pa_nil)))) (pss_one (ps_expr (peApp K (pv 2) (pa_cons (pv 3) pa_nil))))))) (pss_cons (ps_if (pt_cmpR (opEq K hr.units) (pe_f (ok_L_pick (K := K) T) (hr.mono (by decide)) pass0 (pa_cons (pv 0) (pa_cons pe_int pa_nil))) pe_int (nomark _)) (pss_one (ps_ret (pe_callTy (cTup K) (by rfl) T.b_tuple (by decide +kernel) (pa_cons (pv 2) pa_nil)))) pss_nil) (pss_one (ps_ret (pv 2)))))), ?_⟩
  show (_ : TS) { nx := fun _ H' => Q .non H', rt := Q } [some x, some y, none, none] H
  obtain ⟨Hk, dd, A0, ds, rfl, dr, sa, hy, fl, q⟩ := h
  obtain ⟨a, xs0, rfl, hA, hl, al0⟩ := hy.listed
  have ll := al0.len
  walk_at "go"
  refine i_new (by show 0 ≤ 100000; omega) fun ol nol => ?_
  have kol := dr.free nol
  have aol : A0 ol = none := sa.free kol
  have hao : a ≠ ol := fun z => by rw [z, aol] at hA; cases hA
  walk_at "go"
  refine i_forL (xs := xs0) (.inl (.inl (same_upd nol _ _ (dr.old (sa _ _ hA))))) (fun i σ G => ∃ v3 xs es A1 G0, σ = [some (.ref dd.a), some (.ref a), some (.ref ol), v3] ∧ Ext A0 Hk A1 G0 ∧ G0 ol = none ∧ Dr K dd (upd G0 ol (.lst xs)) G ∧ AtAll A1 xs es ∧ Kin (ds.take i) es ∧ es.length = i)
    ⟨none, [], [], A0, Hk, rfl, Ext.refl sa, kol, dr.new nol, .nil, ⟨by simp, rfl, Nat.zero_le _⟩, rfl⟩ ?_ ?_ ?_
  · rintro i σ' H' _ ⟨v3, xs, es, A1, G0, rfl, x1, n1, d1, _⟩
    exact .inl (.inl (d1.old (by rw [upd_ne hao]; exact x1.ag _ _ (x1.aa _ _ hA))))
  · rintro i v σ' H' hi ⟨v3, xs, es, A1, G0, rfl, x1, n1, d1, al, kin, el⟩
    show (_ : TS) _ [some (.ref dd.a), some (.ref a), some (.ref ol), some v] H'
    obtain ⟨d, hd, ad⟩ := al0.get hi
    obtain ⟨hlt, hde⟩ := List.getElem?_eq_some_iff.mp hd
    have tk : ds.take (i + 1) = ds.take i ++ [d] := by rw [List.take_succ, hd]; rfl
    have fd := fl d (List.mem_of_getElem? hd)
    have dpd := fd.deep
    obtain ⟨ws, rfl, fw⟩ := fd
    have av := x1.old ad
    obtain ⟨t, ys, rfl, ht, yl, ya⟩ := av.tupled
    have sAH : Same A1 H' := fun p o e => d1.old (by rw [upd_ne (ne_of_none (x1.ag _ _ e) n1)]; exact x1.ag _ _ e)
    have hv := av.same sAH
    have cells : SqL K G0 dd.c (dd.ns.map V.int) := x1.gg.seq dr.cells
    have xl := al.len
    have tol : t ≠ ol := fun z => by rw [z, x1.ag.free n1] at ht; cases ht
    walk_at "go"
    refine i_isiTup true hv rfl ?_
    walk_at "go"
    refine ⟨_, dd, 3, rfl, rfl, d1, by decide, fun n H2 d2 b => ?_⟩
    have ho := d2.old upd_same
    have ht2 : H2 t = some (.tup ys) := d2.old (by rw [upd_ne tol]; exact x1.ag _ _ ht)
    walk_at "go"
    refine i_dec (fun e0 => ?_) (fun e0 => ?_)
    · walk_at "go"
      refine i_appAt ho ?_
      walk_at "go"
      refine ⟨t, ys, rfl, .inr (.inl (.inl ht2)), fun l nl => ?_⟩
      have lol : l ≠ ol := fun z => by rw [z, ho] at nl; cases nl
      have gl : G0 l = none := by
        have := d2.free nl
        rw [upd_ne lol] at this
        exact this
      have d3 := d2.new (o := .lst ys) nl
      rw [upd_comm lol.symm] at d3
      have x2 := x1.new (o := .lst ys) gl
      have n2 : (upd G0 l (.lst ys)) ol = none := by rw [upd_ne lol.symm]; exact n1
      have a1l := x1.ag.free gl
      walk_at "go"
      refine i_appEnd ((upd_ne lol.symm).trans ho) (by omega) ?_
      refine ⟨_, xs ++ [.ref l], es ++ [.list ws], _, _, rfl, x2, n2, d3.put ((same_upd gl).seq cells) n2, (al.same (same_upd a1l)).app (.one (.lst upd_same yl (ya.same (same_upd a1l)))), ?_, by rw [List.length_append, el]; rfl⟩
      rw [tk]
      exact kin.snoc dpd (flat_nodict fw) (by show PyData.depthAll ws + 1 ≤ 1; have := flat_depth fw; omega)
    · walk_at "go"
      refine i_appAt ho ?_
      walk_at "go"
      refine i_appEnd ho (by omega) ?_
      refine ⟨_, xs ++ [.ref t], es ++ [.tuple ws], A1, G0, rfl, x1, n1, d2.put cells n1, al.app (.one av), ?_, by rw [List.length_append, el]; rfl⟩
      rw [tk]
      exact kin.snoc dpd (flat_nodict fw) (by show PyData.depthAll ws + 1 ≤ 1; have := flat_depth fw; omega)
  · rintro σ G ⟨v3, xs, es, A1, G0, rfl, x1, n1, d1, al, kin, el⟩
    rw [ll, List.take_length] at kin
    have a1o := x1.ag.free n1
    walk_at "go"
    refine ⟨_, dd, 2, rfl, rfl, d1, by decide, fun n H2 d2 b => ?_⟩
    have ho := d2.old upd_same
    walk_at "go"
    refine i_dec (fun e0 => ?_) (fun e0 => ?_)
    · walk_at "go"
      refine i_tuple_lst (.inl (.inl ho)) fun t nt => ?_
      have g2 := d2.free nt
      have x2 := (x1.hid (o := .lst xs) n1).new (o := .tup xs) g2
      have a1t := (x1.hid (o := .lst xs) n1).ag.free g2
      exact q _ _ _ _ _ es x2 (d2.new nt) (At.mkTup upd_same (al.same (same_upd a1t)) (by omega)) (.inr rfl) kin
    · walk_at "go"
      exact q _ _ _ _ _ es (x1.new (o := .lst xs) n1) d2 (At.mkLst upd_same (al.same (same_upd a1o)) (by omega)) (.inl rfl) kin
end
end K12
namespace K12
open PySem PySem.Spec PyProof.Rows L2 Fg
local macro_rules | `(tactic| walk_at "sq") => `(tactic| first
  | assumption
  | exact .inl (.inl (by assumption))
  | exact .inl (.inl upd_same))
local macro_rules | `(tactic| walk_at "st") => `(tactic| first
  | assumption
  | exact .inl (.inl (by assumption))
  | exact .inl (.inl upd_same))
local macro_rules | `(tactic| walk_at "o") => `(tactic| first
  | omega
  | assumption
  | (simp only [List.length_append, List.length_take, List.length_drop, List.length_cons, List.length_nil, List.length_singleton, List.length_map, List.length_range, Int.toNat_natCast] ; omega))
local macro_rules | `(tactic| walk_at "s") => `(tactic| first
  | (with_reducible refine i_seq ?_)
  | (with_reducible refine i_asg ?_)
  | ((with_reducible refine' i_var ?h1 ?_); (case h1 => rfl))
  | (with_reducible refine i_c ?_)
  | ((with_reducible refine' i_gname' ?h1 ?_); (case h1 => (simp only [List.set_cons_zero, List.set_cons_succ]; rfl)))
  | (with_reducible refine i_op ?_)
  | (with_reducible refine i_ifS ?_)
  | (with_reducible refine i_for ?_)
  | (with_reducible refine i_test ?_)
  | (with_reducible refine i_B ?_)
  | (with_reducible refine i_exbl ?_)
  | (with_reducible refine i_exint ?_)
  | (with_reducible refine i_cb ?_)
  | (with_reducible refine i_nil ?_)
  | (with_reducible refine i_cons ?_)
  | (with_reducible refine i_ret ?_)
  | (with_reducible refine i_sl ?_)
  | (with_reducible refine i_nopart ?_)
  | (with_reducible refine i_part ?_)
  | (with_reducible refine i_add_int ?_)
  | (with_reducible refine i_sub ?_)
  | (with_reducible refine i_lt ?_)
  | ((with_reducible refine' i_mod ?h1 ?_); (case h1 => walk_at "o"))
  | ((with_reducible refine' i_fdiv ?h1 ?_); (case h1 => (refine cdiv_small ?_ ?_ <;> walk_at "o")))
  | ((with_reducible refine' i_sl_to ?h1 ?h2 ?_); (case h1 => walk_at "o"); (case h2 => walk_at "o"))
  | ((with_reducible refine' i_sl_from ?h1 ?h2 ?_); (case h1 => walk_at "o"); (case h2 => walk_at "o"))
  | ((with_reducible refine' i_add_str ?h1 ?_); (case h1 => walk_at "o"))
  | ((with_reducible refine' i_mul_int ?h1 ?_); (case h1 => first | (refine mul_small ?_ ?_ <;> walk_at "o") | (refine mul_smallR ?_ ?_ <;> walk_at "o")))
  | (with_reducible refine i_le ?_)
  | (with_reducible refine i_gt ?_)
  | (with_reducible refine i_ge ?_)
  | (with_reducible refine i_eq_int ?_)
  | (with_reducible refine i_eq_str ?_)
  | (with_reducible refine i_ne_int ?_)
  | (with_reducible refine i_ne_str ?_)
  | (with_reducible refine i_eq_bl ?_)
  | (with_reducible refine i_ne_bl ?_)
  | (with_reducible refine i_in_sg ?_)
  | (with_reducible refine i_notIn_sg ?_)
  | (with_reducible refine i_call ?_)
  | (with_reducible refine i_callS ?_)
  | (with_reducible refine i_sp1 ?_)
  | (with_reducible refine i_sp2 ?_)
  | (with_reducible refine i_sp3 ?_)
  | (with_reducible refine i_sp4 ?_)
  | (with_reducible refine i_sp1' ?_)
  | (with_reducible refine i_sp2' ?_)
  | (with_reducible refine i_sp3' ?_)
  | ((with_reducible refine' i_ix_lst ?h1 ?h2 ?_); (case h1 => walk_at "sq"); (case h2 => first | exact atI_nat rfl | rfl))
  | ((with_reducible refine' i_ix_tup ?h1 ?h2 ?_); (case h1 => walk_at "st"); (case h2 => first | exact atI_nat rfl | rfl))
  | (with_reducible refine i_gsub ?_)
  | (with_reducible refine i_par ?_)
  | (with_reducible refine i_lstRg1 ?_)
  | (with_reducible refine i_app ?_)
  | (with_reducible refine i_par2 ?_)
  | ((with_reducible refine' i_aug ?h1 ?_); (case h1 => rfl))
  | (with_reducible refine i_ipI ?_)
  | ((with_reducible refine' i_gtup2 ?h1 ?_); (case h1 => walk_at "st"))
  | (with_reducible refine i_int_bl ?_)
  | (with_reducible refine i_raise ?_)
  | (with_reducible refine i_mkE ?_)
  | (with_reducible refine i_ex1 ?_)
  | (with_reducible refine i_and ?_)
  | (with_reducible refine i_or ?_)
  | (with_reducible refine i_not ?_)
  | (with_reducible refine i_tt ?_)
  | (with_reducible refine i_ff ?_)
  | (with_reducible refine i_nott ?_)
  | (with_reducible refine i_notf ?_)
  | (with_reducible refine i_andV ?_)
  | (with_reducible refine i_orV ?_)
  | (with_reducible refine i_notV ?_)
  | (with_reducible refine i_ifE ?_)
  | (with_reducible refine i_tup ?_)
  | (with_reducible refine i_lst ?_)
  | (with_reducible refine i_un ?_)
  | (with_reducible refine i_neg ?_)
  | (with_reducible refine i_chain ?_)
  | (with_reducible refine i_next ?_)
  | (with_reducible refine i_retN ?_)
  | (with_reducible refine i_drop ?_)
  | (with_reducible refine i_int_int ?_)
  | (with_reducible refine i_abs ?_)
  | (with_reducible refine i_m1c ?_)
  | (with_reducible refine i_is_non ?_)
  | (with_reducible refine i_is_int ?_)
  | (with_reducible refine i_is_bl ?_)
  | (with_reducible refine i_isn_bl ?_)
  | (with_reducible refine i_is_str ?_)
  | (with_reducible refine i_is_ref ?_)
  | (with_reducible refine i_isn_non ?_)
  | (with_reducible refine i_isn_int ?_)
  | (with_reducible refine i_isn_str ?_)
  | (with_reducible refine i_isn_ref ?_)
  | (with_reducible refine i_len_str ?h1 ?_; (case h1 => walk_at "o"))
  | (with_reducible refine i_callD ?_)
  | (with_reducible refine i_spD2 ?_)
  | (with_reducible refine i_spM1 ?_)
  | (with_reducible refine i_spM2 ?_)
  | (with_reducible refine i_spM3 ?_)
  | (with_reducible refine i_spM4 ?_)
  | (with_reducible refine i_spM3d ?_)
  | (with_reducible refine i_tfld ?_)
  | (with_reducible refine i_sfld ?_)
  | (with_reducible refine i_meth ?_)
  | (with_reducible refine i_make ?_)
  | (with_reducible refine i_spl ?_)
  | (with_reducible refine i_mkE2 ?_)
  | (with_reducible refine i_ex2 ?_)
  | (with_reducible refine i_dget ?_)
  | (with_reducible refine i_tru ?_)
  | (with_reducible refine i_dput ?_)
  | (with_reducible refine i_dnotin ?_)
  | (with_reducible refine i_din ?_)
  | (with_reducible refine i_isi_int_int ?_) | (with_reducible refine i_isi_int_bool ?_) | (with_reducible refine i_isi_int_str ?_) | (with_reducible refine i_isi_int_tuple ?_) | (with_reducible refine i_isi_int_list ?_)
  | (with_reducible refine i_isi_bl_int ?_) | (with_reducible refine i_isi_bl_bool ?_) | (with_reducible refine i_isi_bl_str ?_) | (with_reducible refine i_isi_bl_tuple ?_) | (with_reducible refine i_isi_bl_list ?_)
  | (with_reducible refine i_isi_str_int ?_) | (with_reducible refine i_isi_str_bool ?_) | (with_reducible refine i_isi_str_str ?_) | (with_reducible refine i_isi_str_tuple ?_) | (with_reducible refine i_isi_str_list ?_)
  | (with_reducible refine i_isi_non_int ?_) | (with_reducible refine i_isi_non_bool ?_) | (with_reducible refine i_isi_non_str ?_) | (with_reducible refine i_isi_non_tuple ?_) | (with_reducible refine i_isi_non_list ?_))
local macro_rules | `(tactic| walk_at "go") => `(tactic| (repeat' (walk_at "s")))
local macro_rules | `(tactic| walk_at "n") => `(tactic| simp only [wipe, List.map_cons, List.map_nil, List.set_cons_zero, List.set_cons_succ])
/-! ### lines that are spoilt -/
theorem joinL_eq (sep : List Nat) : ∀ ls : List (List Nat), ls ≠ [] → (TL.joinL sep ls).length + sep.length = (ls.map List.length).sum + ls.length * sep.length
  | [], h => absurd rfl h
  | [p], _ => by
    show p.length + sep.length = _
    simp
  | p :: q :: r, _ => by
    have ih := joinL_eq sep (q :: r) (by simp)
    show (p ++ (sep ++ TL.joinL sep (q :: r))).length + sep.length = _
    rw [List.length_append, List.length_append, List.map_cons, List.sum_cons, List.length_cons (a := p), Nat.add_mul, Nat.one_mul]
    omega
theorem words_join (x : Str) : TL.joinL [32] (wordsOf x) = x.cps.toList := by
  have h := TL.tl_join ⟨#[32]⟩ (Txt.split x ⟨#[32]⟩)
  rw [StrLaws.join_split] at h
  exact h.symm
theorem words_sum (l : List Nat) : ((wordsOf ⟨l.toArray⟩).map List.length).sum + (wordsOf ⟨l.toArray⟩).length = l.length + 1 := by
  have hp := words_pos ⟨l.toArray⟩
  have h := joinL_eq [32] (wordsOf ⟨l.toArray⟩) (fun z => by rw [z] at hp; exact absurd hp (by decide))
  rw [words_join] at h
  have e : (l.toArray.toList).length = l.length := by simp
  have e2 : (⟨l.toArray⟩ : Str).cps.toList.length = l.length := e
  rw [e2] at h
  have e3 : ([32] : List Nat).length = 1 := rfl
  rw [e3] at h
  omega
theorem cutV_to' {ws : List (List Nat)} (p : Nat) : cutV (ws.map S) none (some (p : Int)) = (ws.take p).map S := by
  rw [cutV_to, List.map_take]
theorem cutV_fr {xs : List V} (k : Nat) : cutV xs (some (k : Int)) none = xs.drop k := by
  unfold cutV
  rw [HT.sIx_nat, HT.sIx_none]
  by_cases hk : k ≤ xs.length
  · rw [Nat.min_eq_left hk]
    exact List.take_of_length_le (by rw [List.length_drop]; omega)
  · rw [Nat.min_eq_right (by omega), Nat.sub_self, List.take_zero, List.drop_of_length_le (by omega)]
theorem cutV_fr' {ws : List (List Nat)} (p : Nat) : cutV (ws.map S) (some (p : Int)) none = (ws.drop p).map S := by
  rw [cutV_fr, List.map_drop]
theorem sum_cut (ws : List (List Nat)) (p q : Nat) (h : p ≤ q) : ((ws.take p).map List.length).sum + ((ws.drop q).map List.length).sum ≤ (ws.map List.length).sum := by
  have e : (ws.map List.length).sum = ((ws.take p).map List.length).sum + ((ws.drop p).map List.length).sum := by
    rw [← List.sum_append, ← List.map_append, List.take_append_drop]
  have e2 : ws.drop q = (ws.drop p).drop (q - p) := by rw [List.drop_drop]; congr 1; omega
  have e3 : ((ws.drop p).map List.length).sum = (((ws.drop p).take (q - p)).map List.length).sum + (((ws.drop p).drop (q - p)).map List.length).sum := by
    rw [← List.sum_append, ← List.map_append, List.take_append_drop]
  rw [e, e2, e3]
  omega
/-- what can stand in the place of a line -/
def LnD (d : PyData) (L : Nat) : Prop := d.depth ≤ 1 ∧ d.hasDict = false ∧ ∀ x, d = .str x → x.length ≤ L
theorem LnD.str {l : List Nat} {L : Nat} (h : l.length ≤ L) : LnD (dS l) L := ⟨Nat.zero_le _, rfl, fun x e => by cases e; rw [str_len]; exact h⟩
theorem LnD.mono {d : PyData} {L M : Nat} (h : LnD d L) (k : L ≤ M) : LnD d M := ⟨h.1, h.2.1, fun x e => Nat.le_trans (h.2.2 x e) k⟩
theorem nodict_S : ∀ ws : List (List Nat), PyData.hasDictAll (ws.map dS) = false
  | [] => rfl
  | w :: r => nodict_S r
theorem depth_S : ∀ ws : List (List Nat), PyData.depthAll (ws.map dS) = 0
  | [] => rfl
  | w :: r => by
    show max 0 (PyData.depthAll (r.map dS)) = 0
    rw [depth_S r]; rfl
theorem AtAll.mapS {H : Hp} : ∀ {ws : List (List Nat)}, (∀ w ∈ ws, w.length ≤ 10000) → AtAll H (ws.map S) (ws.map dS)
  | [], _ => .nil
  | w :: r, h => .cons (.str w (h w (List.mem_cons_self ..))) (AtAll.mapS fun v hv => h v (List.mem_cons_of_mem _ hv))
theorem i_replC {to : TE} {y z : Str} {σ : L2.St} {H : Hp} {Q : VK} (q : to σ H fun v H1 => ∃ x, v = .str x ∧ x.length + (x.length + 1) * z.length ≤ 16777216 ∧ Q (.str (Txt.replace x y z)) H1) : CwR.tReplC to y z σ H Q := q
theorem i_upp {K : PySem.W.Frag} {to : TE} {σ : L2.St} {H : Hp} {Q : VK} (q : to σ H fun x H1 => tyV K "str" x H1 ∧ ∃ a, x = .str a ∧ [] = ([] : List V) ∧ a.length ≤ 5592405 ∧ Q (.str (Txt.upper a)) H1) : tUpp K to σ H Q := q
theorem seven {n : Int} (h : Btw n 7) : n = 0 ∨ n = 1 ∨ n = 2 ∨ n = 3 ∨ n = 4 ∨ n = 5 ∨ n = 6 := by
  have := h.1
  have := h.2.1 (by decide)
  omega
section
variable {P : Program} {w : World} {K : PySem.W.Frag} {mg : Str → Option Value} {base : Heap} {C_GlimError C_BadLine C_BadWeather C_Lines : Addr}
def p_L_spoilt_line (K : PySem.W.Frag) : P2 := fun x y H Q _ => ∃ Hk dd l A, x = .ref dd.a ∧ y = S l ∧ l.length ≤ 2000 ∧ Dr K dd Hk H ∧ Same A Hk ∧
  ∀ Hk' H' A' v d, Ext A Hk A' Hk' → Dr K dd Hk' H' → At A' v d → LnD d (3 * l.length + 200) → Q v H'
theorem ok_L_spoilt_line (T : Txt K mg C_GlimError C_BadLine C_BadWeather C_Lines) : OK P w K mg base CX0 4 "_law_spoilt_line" ["_law_draw_here", "_law_line_here"] (sp2  (p_L_spoilt_line K)) := by
  refine OK.mk (k := 3) T.d_L_spoilt_line sc_L_spoilt_line len2 fun f cdv A outer s H vs Q E hr h => ?_
  obtain ⟨x, y, rfl, h⟩ := h
  refine ⟨_, (pss_cons (ps_set (i := 2) sc_L_spoilt_line.nd rfl (Or.inl rfl) (pe_f (ok_L_pick (K := K) T) (hr.mono (by decide)) pass0 (pa_cons (pv 0) (pa_cons pe_int pa_nil)))) (pss_cons (ps_set (i := 3) sc_L_spoilt_line.nd rfl (Or.inl rfl) (peSplit K (pv 1) (pa_cons (pe_S [32]) pa_nil))) (pss_cons (ps_set (i := 4) sc_L_spoilt_line.nd rfl (Or.inl rfl) (pe_f (ok_L_pick (K := K) T) (hr.mono (by decide)) pass0 (pa_cons (pv 0) (pa_cons (pe_op (opAdd K) (pe_callB (cLen K) (by rfl) T.b_len (by decide +kernel) (pa_cons (pv 3) pa_nil)) pe_int) pa_nil)))) (pss_cons (ps_if (pt_cmpR op_ltP (pv 2) pe_int (nomark _)) (pss_one (ps_ret (peJoin K (pe_S [32]) (pe_op (opAdd K) (pe_op (opAdd K) (pe_slice (slK K) (pv 3) po_none (po_some (pv 4))) (pe_lst (pa_cons (pe_f (ok_L_word (K := K) T) (hr.mono (by decide)) pass0 (pa_cons (pv 0) pa_nil)) pa_nil))) (pe_slice (slK K) (pv 3) (po_some (pv 4)) po_none))))) pss_nil) (pss_cons (ps_if (pt_cmpR (opEq K hr.units) (pv 2) pe_int (nomark _)) (pss_one (ps_ret (peJoin K (pe_S [32]) (pe_op (opAdd K) (pe_slice (slK K) (pv 3) po_none (po_some (pv 4))) (pe_slice (slK K) (pv 3) (po_some (pe_op (opAdd K) (pv 4) pe_int)) po_none))))) pss_nil) (pss_cons (ps_if (pt_cmpR op_ltP (pv 2) pe_int (nomark _)) (pss_one (ps_ret (peJoin K (pe_S [32]) (pe_op (opAdd K) (pe_op (opAdd K) (pe_slice (slK K) (pv 3) po_none (po_some (pv 4))) (pe_lst (pa_cons (pe_f (ok_L_word (K := K) T) (hr.mono (by decide)) pass0 (pa_cons (pv 0) pa_nil)) pa_nil))) (pe_slice (slK K) (pv 3) (po_some (pe_op (opAdd K) (pv 4) pe_int)) po_none))))) pss_nil) (pss_cons (Fg.ps_ifK (opEq K hr.units) (pv 2) (CwR.psst_one (CwR.pst_ret (CwR.pet_op (opAdd K) (CwR.pet_replC (pv 1)) (CwR.PET.of (pe_ix (ixK K) (pe_lst (pa_cons (pe_S [32]) (pa_cons (pe_S []) (pa_cons (pe_S [46]) pa_nil)))) (pe_f (ok_L_pick (K := K) T) (hr.mono (by decide)) pass0 (pa_cons (pv 0) (pa_cons pe_int pa_nil))) (fun _ _ => rfl)))))) pss_nil) (pss_one (ps_ret (pe_ix (ixK K) (pe_lst (pa_cons pe_non (pa_cons pe_int (pa_cons pe_bl (pa_cons (pe_callTy (cTup K) (by rfl) T.b_tuple (by decide +kernel) (pa_cons (pv 3) pa_nil)) (pa_cons (pe_S [32]) (pa_cons (pe_S [103, 108, 111, 119, 32, 108, 97, 116, 101]) (pa_cons (peUpper K (pv 1)) pa_nil)))))))) (pe_f (ok_L_pick (K := K) T) (hr.mono (by decide)) pass0 (pa_cons (pv 0) (pa_cons pe_int pa_nil))) (fun _ _ => rfl))))))))))), ?_⟩
  show (_ : TS) { nx := fun _ H' => Q .non H', rt := Q } [some x, some y, none, none, none] H
  obtain ⟨Hk, dd, l, A0, rfl, rfl, hl, dr, sa, q⟩ := h
  walk_at "go"
  refine ⟨Hk, dd, 8, rfl, rfl, dr, by decide, fun kd G1 dr1 bk => ?_⟩
  have k0 := bk.1
  have k8 := bk.2.1 (by decide)
  walk_at "go"
  refine ⟨rfl, ?_⟩
  walk_at "go"
  refine ⟨⟨l.toArray⟩, ⟨#[32]⟩, rfl, rfl, rfl, ?_, ?_⟩
  · rw [str_len]
    exact Nat.le_trans (show l.length + 2 ≤ 100000 by omega) (by decide)
  intro wl nwl
  rw [words_V]
  have wsum := words_sum l
  have wpos := words_pos ⟨l.toArray⟩
  have wlen : ∀ w ∈ wordsOf ⟨l.toArray⟩, w.length ≤ 10000 := fun w hw => by
    have := words_len hw
    rw [str_len] at this
    omega
  generalize wordsOf ⟨l.toArray⟩ = ws at *
  have wmap : (ws.map S).length = ws.length := List.length_map ..
  have kwl := dr1.free nwl
  have dr2 := dr1.new (o := .lst (ws.map S)) nwl
  have cells := dr1.cells
  have hW : (upd G1 wl (.lst (ws.map S))) wl = some (.lst (ws.map S)) := upd_same
  generalize upd G1 wl (.lst (ws.map S)) = G2 at *
  have x0 : Ext A0 Hk A0 (upd Hk wl (.lst (ws.map S))) := (Ext.refl sa).hid kwl
  have hk : (upd Hk wl (.lst (ws.map S))) wl = some (.lst (ws.map S)) := upd_same
  walk_at "go"
  refine i_len_lst (.inl (.inl hW)) ?_
  walk_at "go"
  refine ⟨_, dd, _, rfl, rfl, dr2, by rw [wmap]; omega, fun pl G3 dr3 bp => ?_⟩
  have p0 := bp.1
  have p1 := bp.2.1 (by rw [wmap]; omega)
  obtain ⟨p, rfl⟩ := Int.eq_ofNat_of_zero_le p0
  have ep : (p : Int) + 1 = ((p + 1 : Nat) : Int) := by omega
  have hW3 := dr3.old hk
  generalize upd Hk wl (.lst (ws.map S)) = Hk1 at *
  have fin : ∀ {G : Hp} {m : List Nat}, Dr K dd Hk1 G → m.length ≤ 3 * l.length + 200 → Q (S m) G := fun {G m} d h => q _ _ _ _ (dS m) x0 d (.str _ (by omega)) (LnD.str h)
  -- words put together
  have put : ∀ {G : Hp} {a : Addr} (us : List (List Nat)), Dr K dd Hk1 G → G a = some (.lst (us.map S)) → (us.map List.length).sum + us.length ≤ l.length + 102 → rJoinP K (S [32]) [.ref a] G Q := fun {G a} us d ha hu => by
    refine i_joinG (.inl (.inl ha)) (by show _ + us.length * 1 ≤ 100000; omega) (fin d ?_)
    have := joinL_bound [32] us
    have e1 : us.length * ([32] : List Nat).length = us.length := by show us.length * 1 = _; omega
    omega
  have sc := fun q (h : p ≤ q) => sum_cut ws p q h
  have sm : ∀ (us : List (List Nat)) (w : List Nat) (vs : List (List Nat)), ((us ++ [w] ++ vs).map List.length).sum = (us.map List.length).sum + w.length + (vs.map List.length).sum := fun us w vs => by
    simp only [List.map_append, List.sum_append, List.map_cons, List.map_nil, List.sum_cons, List.sum_nil]; omega
  walk_at "go"
  refine i_dec (fun e0 => ?_) (fun e0 => ?_)
  · walk_at "go"
    refine i_slL (.inl (.inl hW3)) fun l1 n1 => ?_
    rw [cutV_to']
    walk_at "go"
    have d4 := dr3.new (o := .lst ((ws.take p).map S)) n1
    have k1 := dr3.free n1
    refine ⟨_, dd, rfl, d4, fun w G4 dr4 hw => ?_⟩
    have e1 := dr4.old upd_same
    have dr4 := dr4.less dr3.cells k1
    have hW4 := dr4.old hk
    walk_at "go"
    refine i_new (by show 1 ≤ 100000; omega) fun l2 n2 => ?_
    refine i_catL ((upd_ne (ne_of_none e1 n2)).trans e1) upd_same (by rw [List.length_map, List.length_take]; show _ + 1 ≤ 100000; omega) fun l3 n3 => ?_
    have dr5 := (dr4.same (same_upd (o := .lst [S w]) n2)).same (same_upd (o := .lst ((ws.take p).map S ++ [S w])) n3)
    walk_at "go"
    refine i_slL (.inl (.inl (dr5.old hk))) fun l4 n4 => ?_
    rw [cutV_fr']
    refine i_catL ((upd_ne (ne_of_none upd_same n4)).trans upd_same) upd_same (by rw [List.length_append, List.length_map, List.length_map, List.length_take, List.length_drop]; show _ + 1 + _ ≤ 100000; omega) fun l5 n5 => ?_
    have dr6 := (dr5.same (same_upd (o := .lst ((ws.drop p).map S)) n4)).same (same_upd (o := .lst ((ws.take p).map S ++ [S w] ++ (ws.drop p).map S)) n5)
    walk_at "go"
    refine put (ws.take p ++ [w] ++ ws.drop p) dr6 ?_ ?_
    · rw [upd_same, List.map_append, List.map_append]; rfl
    · have := sc p (Nat.le_refl _)
      rw [sm, List.length_append, List.length_append, List.length_take, List.length_drop, List.length_singleton]
      omega
  walk_at "go"
  refine i_dec (fun e1 => ?_) (fun e1 => ?_)
  · walk_at "go"
    refine i_slL (.inl (.inl hW3)) fun l1 n1 => ?_
    rw [cutV_to']
    walk_at "go"
    have d4 := dr3.same (same_upd (o := .lst ((ws.take p).map S)) n1)
    refine i_slL (.inl (.inl (d4.old hk))) fun l4 n4 => ?_
    rw [ep, cutV_fr']
    refine i_catL ((upd_ne (ne_of_none upd_same n4)).trans upd_same) upd_same (by rw [List.length_map, List.length_map, List.length_take, List.length_drop]; omega) fun l5 n5 => ?_
    have dr6 := (d4.same (same_upd (o := .lst ((ws.drop (p + 1)).map S)) n4)).same (same_upd (o := .lst ((ws.take p).map S ++ (ws.drop (p + 1)).map S)) n5)
    walk_at "go"
    refine put (ws.take p ++ ws.drop (p + 1)) dr6 ?_ ?_
    · rw [upd_same, List.map_append]
    · have := sc (p + 1) (by omega)
      rw [List.map_append, List.sum_append, List.length_append, List.length_take, List.length_drop]
      omega
  walk_at "go"
  refine i_dec (fun e2 => ?_) (fun e2 => ?_)
  · walk_at "go"
    refine i_slL (.inl (.inl hW3)) fun l1 n1 => ?_
    rw [cutV_to']
    walk_at "go"
    have d4 := dr3.new (o := .lst ((ws.take p).map S)) n1
    have k1 := dr3.free n1
    refine ⟨_, dd, rfl, d4, fun w G4 dr4 hw => ?_⟩
    have e1 := dr4.old upd_same
    have dr4 := dr4.less dr3.cells k1
    have hW4 := dr4.old hk
    walk_at "go"
    refine i_new (by show 1 ≤ 100000; omega) fun l2 n2 => ?_
    refine i_catL ((upd_ne (ne_of_none e1 n2)).trans e1) upd_same (by rw [List.length_map, List.length_take]; show _ + 1 ≤ 100000; omega) fun l3 n3 => ?_
    have dr5 := (dr4.same (same_upd (o := .lst [S w]) n2)).same (same_upd (o := .lst ((ws.take p).map S ++ [S w])) n3)
    walk_at "go"
    refine i_slL (.inl (.inl (dr5.old hk))) fun l4 n4 => ?_
    rw [ep, cutV_fr']
    refine i_catL ((upd_ne (ne_of_none upd_same n4)).trans upd_same) upd_same (by rw [List.length_append, List.length_map, List.length_map, List.length_take, List.length_drop]; show _ + 1 + _ ≤ 100000; omega) fun l5 n5 => ?_
    have dr6 := (dr5.same (same_upd (o := .lst ((ws.drop (p + 1)).map S)) n4)).same (same_upd (o := .lst ((ws.take p).map S ++ [S w] ++ (ws.drop (p + 1)).map S)) n5)
    walk_at "go"
    refine put (ws.take p ++ [w] ++ ws.drop (p + 1)) dr6 ?_ ?_
    · rw [upd_same, List.map_append, List.map_append]; rfl
    · have := sc (p + 1) (by omega)
      rw [sm, List.length_append, List.length_append, List.length_take, List.length_drop, List.length_singleton]
      omega
  walk_at "go"
  refine i_dec (fun e3 => ?_) (fun e3 => ?_)
  · walk_at "go"
    refine i_replC ?_
    walk_at "go"
    refine ⟨⟨l.toArray⟩, rfl, ?_, ?_⟩
    · rw [str_len]
      show _ + (l.length + 1) * 2 ≤ _
      omega
    have rl := TK.replace_len ⟨l.toArray⟩ (Str.ofString " ") (Str.ofString "  ")
    rw [str_len l, show (Str.ofString "  ").length = 2 from by decide +kernel] at rl
    generalize Txt.replace ⟨l.toArray⟩ (Str.ofString " ") (Str.ofString "  ") = rz at *
    walk_at "go"
    refine i_new (by show 3 ≤ 100000; omega) fun l1 n1 => ?_
    walk_at "go"
    refine ⟨_, dd, 3, rfl, rfl, dr3.new n1, by decide, fun n G4 dr4 b => ?_⟩
    have hx := dr4.old upd_same
    obtain ⟨w, hw, wl⟩ := pick_at hx (by rfl) (by rfl) b (by decide)
    refine i_ix_lst (.inl (.inl hx)) hw ?_
    have rl' : rz.cps.toList.length ≤ 3 * l.length + 2 := by
      have e : rz.cps.toList.length = rz.length := by simp [Str.length]
      omega
    show addP K (S rz.cps.toList) (S w) G4 Q
    refine i_add_str (by omega) ?_
    exact fin (dr4.less dr3.cells (dr3.free n1)) (by rw [List.length_append]; omega)
  · walk_at "go"
    refine i_tuple_lst (.inl (.inl hW3)) fun t nt => ?_
    walk_at "go"
    refine i_upp ?_
    walk_at "go"
    refine ⟨rfl, ⟨l.toArray⟩, rfl, rfl, by rw [str_len]; omega, ?_⟩
    have ul := PyProof.Rows.len_upper ⟨l.toArray⟩
    rw [str_len l] at ul
    generalize Txt.upper ⟨l.toArray⟩ = uz at *
    have ul' : uz.cps.toList.length ≤ 3 * l.length := by
      have e : uz.cps.toList.length = uz.length := by simp [Str.length]
      omega
    walk_at "go"
    refine i_new (by show 7 ≤ 100000; omega) fun l8 n8 => ?_
    have k1 := dr3.free nt
    have dr4 := dr3.new (o := .tup (ws.map S)) nt
    have x1 := x0.new (o := .tup (ws.map S)) k1
    have k2 := dr4.free n8
    walk_at "go"
    refine ⟨_, dd, 7, rfl, rfl, dr4.new n8, by decide, fun n G5 dr5 b => ?_⟩
    have hx := dr5.old upd_same
    have x2 := x1.hid (o := .lst [.non, .int 7, .bl true, .ref t, S [32], S [103, 108, 111, 119, 32, 108, 97, 116, 101], S uz.cps.toList]) k2
    have nd0 : ∀ {d : PyData}, d = .none ∨ d = .int 7 ∨ d = .bool true → LnD d (3 * l.length + 200) := fun h => by
      rcases h with rfl | rfl | rfl <;> exact ⟨Nat.zero_le _, rfl, fun x e => by cases e⟩
    rcases seven b with rfl | rfl | rfl | rfl | rfl | rfl | rfl
    · refine i_ix_lst (v := .non) (.inl (.inl hx)) rfl ?_
      exact q _ _ _ _ .none x2 dr5 .non (nd0 (.inl rfl))
    · refine i_ix_lst (v := .int 7) (.inl (.inl hx)) rfl ?_
      exact q _ _ _ _ (.int 7) x2 dr5 (.int 7) (nd0 (.inr (.inl rfl)))
    · refine i_ix_lst (v := .bl true) (.inl (.inl hx)) rfl ?_
      exact q _ _ _ _ (.bool true) x2 dr5 (.bl true) (nd0 (.inr (.inr rfl)))
    · refine i_ix_lst (v := .ref t) (.inl (.inl hx)) rfl ?_
      refine q _ _ _ _ (.tuple (ws.map dS)) x2 dr5 (At.mkTup upd_same (AtAll.mapS wlen) (by rw [List.length_map]; omega)) ⟨?_, nodict_S ws, fun x e => by cases e⟩
      show PyData.depthAll (ws.map dS) + 1 ≤ 1
      rw [depth_S]; exact Nat.le_refl _
    · refine i_ix_lst (v := S [32]) (.inl (.inl hx)) rfl ?_
      exact q _ _ _ _ (dS [32]) x2 dr5 (.str _ (by decide)) (LnD.str (by show 1 ≤ _; omega))
    · refine i_ix_lst (v := S [103, 108, 111, 119, 32, 108, 97, 116, 101]) (.inl (.inl hx)) rfl ?_
      exact q _ _ _ _ (dS [103, 108, 111, 119, 32, 108, 97, 116, 101]) x2 dr5 (.str _ (by decide)) (LnD.str (by show 9 ≤ _; omega))
    · refine i_ix_lst (v := S uz.cps.toList) (.inl (.inl hx)) rfl ?_
      exact q _ _ _ _ (dS uz.cps.toList) x2 dr5 (.str _ (by omega)) (LnD.str (by omega))
end
end K12
namespace K12
open PySem PySem.Spec PyProof.Rows L2 Fg
local macro_rules | `(tactic| walk_at "sq") => `(tactic| first
  | assumption
  | exact .inl (.inl (by assumption))
  | exact .inl (.inl upd_same))
local macro_rules | `(tactic| walk_at "st") => `(tactic| first
  | assumption
  | exact .inl (.inl (by assumption))
  | exact .inl (.inl upd_same))
local macro_rules | `(tactic| walk_at "o") => `(tactic| first
  | omega
  | assumption
  | (simp only [List.length_append, List.length_take, List.length_drop, List.length_cons, List.length_nil, List.length_singleton, List.length_map, List.length_range, Int.toNat_natCast] ; omega))
local macro_rules | `(tactic| walk_at "s") => `(tactic| first
  | (with_reducible refine i_seq ?_)
  | (with_reducible refine i_asg ?_)
  | ((with_reducible refine' i_var ?h1 ?_); (case h1 => rfl))
  | (with_reducible refine i_c ?_)
  | ((with_reducible refine' i_gname' ?h1 ?_); (case h1 => (simp only [List.set_cons_zero, List.set_cons_succ]; rfl)))
  | (with_reducible refine i_op ?_)
  | (with_reducible refine i_ifS ?_)
  | (with_reducible refine i_for ?_)
  | (with_reducible refine i_test ?_)
  | (with_reducible refine i_B ?_)
  | (with_reducible refine i_exbl ?_)
  | (with_reducible refine i_exint ?_)
  | (with_reducible refine i_cb ?_)
  | (with_reducible refine i_nil ?_)
  | (with_reducible refine i_cons ?_)
  | (with_reducible refine i_ret ?_)
  | (with_reducible refine i_sl ?_)
  | (with_reducible refine i_nopart ?_)
  | (with_reducible refine i_part ?_)
  | (with_reducible refine i_add_int ?_)
  | (with_reducible refine i_sub ?_)
  | (with_reducible refine i_lt ?_)
  | ((with_reducible refine' i_mod ?h1 ?_); (case h1 => walk_at "o"))
  | ((with_reducible refine' i_fdiv ?h1 ?_); (case h1 => (refine cdiv_small ?_ ?_ <;> walk_at "o")))
  | ((with_reducible refine' i_sl_to ?h1 ?h2 ?_); (case h1 => walk_at "o"); (case h2 => walk_at "o"))
  | ((with_reducible refine' i_sl_from ?h1 ?h2 ?_); (case h1 => walk_at "o"); (case h2 => walk_at "o"))
  | ((with_reducible refine' i_add_str ?h1 ?_); (case h1 => walk_at "o"))
  | ((with_reducible refine' i_mul_int ?h1 ?_); (case h1 => first | (refine mul_small ?_ ?_ <;> walk_at "o") | (refine mul_smallR ?_ ?_ <;> walk_at "o")))
  | (with_reducible refine i_le ?_)
  | (with_reducible refine i_gt ?_)
  | (with_reducible refine i_ge ?_)
  | (with_reducible refine i_eq_int ?_)
  | (with_reducible refine i_eq_str ?_)
  | (with_reducible refine i_ne_int ?_)
  | (with_reducible refine i_ne_str ?_)
  | (with_reducible refine i_eq_bl ?_)
  | (with_reducible refine i_ne_bl ?_)
  | (with_reducible refine i_in_sg ?_)
  | (with_reducible refine i_notIn_sg ?_)
  | (with_reducible refine i_call ?_)
  | (with_reducible refine i_callS ?_)
  | (with_reducible refine i_sp1 ?_)
  | (with_reducible refine i_sp2 ?_)
  | (with_reducible refine i_sp3 ?_)
  | (with_reducible refine i_sp4 ?_)
  | (with_reducible refine i_sp1' ?_)
  | (with_reducible refine i_sp2' ?_)
  | (with_reducible refine i_sp3' ?_)
  | ((with_reducible refine' i_ix_lst ?h1 ?h2 ?_); (case h1 => walk_at "sq"); (case h2 => first | exact atI_nat rfl | rfl))
  | ((with_reducible refine' i_ix_tup ?h1 ?h2 ?_); (case h1 => walk_at "st"); (case h2 => first | exact atI_nat rfl | rfl))
  | (with_reducible refine i_gsub ?_)
  | (with_reducible refine i_par ?_)
  | (with_reducible refine i_lstRg1 ?_)
  | (with_reducible refine i_app ?_)
  | (with_reducible refine i_par2 ?_)
  | ((with_reducible refine' i_aug ?h1 ?_); (case h1 => rfl))
  | (with_reducible refine i_ipI ?_)
  | ((with_reducible refine' i_gtup2 ?h1 ?_); (case h1 => walk_at "st"))
  | (with_reducible refine i_int_bl ?_)
  | (with_reducible refine i_raise ?_)
  | (with_reducible refine i_mkE ?_)
  | (with_reducible refine i_ex1 ?_)
  | (with_reducible refine i_and ?_)
  | (with_reducible refine i_or ?_)
  | (with_reducible refine i_not ?_)
  | (with_reducible refine i_tt ?_)
  | (with_reducible refine i_ff ?_)
  | (with_reducible refine i_nott ?_)
  | (with_reducible refine i_notf ?_)
  | (with_reducible refine i_andV ?_)
  | (with_reducible refine i_orV ?_)
  | (with_reducible refine i_notV ?_)
  | (with_reducible refine i_ifE ?_)
  | (with_reducible refine i_tup ?_)
  | (with_reducible refine i_lst ?_)
  | (with_reducible refine i_un ?_)
  | (with_reducible refine i_neg ?_)
  | (with_reducible refine i_chain ?_)
  | (with_reducible refine i_next ?_)
  | (with_reducible refine i_retN ?_)
  | (with_reducible refine i_drop ?_)
  | (with_reducible refine i_int_int ?_)
  | (with_reducible refine i_abs ?_)
  | (with_reducible refine i_m1c ?_)
  | (with_reducible refine i_is_non ?_)
  | (with_reducible refine i_is_int ?_)
  | (with_reducible refine i_is_bl ?_)
  | (with_reducible refine i_isn_bl ?_)
  | (with_reducible refine i_is_str ?_)
  | (with_reducible refine i_is_ref ?_)
  | (with_reducible refine i_isn_non ?_)
  | (with_reducible refine i_isn_int ?_)
  | (with_reducible refine i_isn_str ?_)
  | (with_reducible refine i_isn_ref ?_)
  | (with_reducible refine i_len_str ?h1 ?_; (case h1 => walk_at "o"))
  | (with_reducible refine i_callD ?_)
  | (with_reducible refine i_spD2 ?_)
  | (with_reducible refine i_spM1 ?_)
  | (with_reducible refine i_spM2 ?_)
  | (with_reducible refine i_spM3 ?_)
  | (with_reducible refine i_spM4 ?_)
  | (with_reducible refine i_spM3d ?_)
  | (with_reducible refine i_tfld ?_)
  | (with_reducible refine i_sfld ?_)
  | (with_reducible refine i_meth ?_)
  | (with_reducible refine i_make ?_)
  | (with_reducible refine i_spl ?_)
  | (with_reducible refine i_mkE2 ?_)
  | (with_reducible refine i_ex2 ?_)
  | (with_reducible refine i_dget ?_)
  | (with_reducible refine i_tru ?_)
  | (with_reducible refine i_dput ?_)
  | (with_reducible refine i_dnotin ?_)
  | (with_reducible refine i_din ?_)
  | (with_reducible refine i_isi_int_int ?_) | (with_reducible refine i_isi_int_bool ?_) | (with_reducible refine i_isi_int_str ?_) | (with_reducible refine i_isi_int_tuple ?_) | (with_reducible refine i_isi_int_list ?_)
  | (with_reducible refine i_isi_bl_int ?_) | (with_reducible refine i_isi_bl_bool ?_) | (with_reducible refine i_isi_bl_str ?_) | (with_reducible refine i_isi_bl_tuple ?_) | (with_reducible refine i_isi_bl_list ?_)
  | (with_reducible refine i_isi_str_int ?_) | (with_reducible refine i_isi_str_bool ?_) | (with_reducible refine i_isi_str_str ?_) | (with_reducible refine i_isi_str_tuple ?_) | (with_reducible refine i_isi_str_list ?_)
  | (with_reducible refine i_isi_non_int ?_) | (with_reducible refine i_isi_non_bool ?_) | (with_reducible refine i_isi_non_str ?_) | (with_reducible refine i_isi_non_tuple ?_) | (with_reducible refine i_isi_non_list ?_))
local macro_rules | `(tactic| walk_at "go") => `(tactic| (repeat' (walk_at "s")))
local macro_rules | `(tactic| walk_at "n") => `(tactic| simp only [wipe, List.map_cons, List.map_nil, List.set_cons_zero, List.set_cons_succ])
theorem short_lose : ∀ n < 10, (lineD [dS cLose, .int ((n : Nat) : Int)]).length ≤ 100 := by decide +kernel
theorem short_miss : ∀ a < 3, ∀ b < 9, (lineD [dS cMiss, .int ((a : Nat) : Int), .int ((b : Nat) : Int)]).length ≤ 100 := by decide +kernel
theorem short_take : ∀ alw : Bool, ∀ s ∈ LT, ∀ t ∈ SG, (lineD [dS (if alw then cAlw else cTake), dS [s], dS [t]]).length ≤ 100 := by decide +kernel
theorem GoodW.short {es : List PyData} (h : GoodW es) : (lineD es).length ≤ 100 := by
  cases h with
  | lose n h1 h2 => exact short_lose n (by omega)
  | miss a b h1 h2 h3 h4 => exact short_miss a (by omega) b (by omega)
  | take alw s t h1 h2 h3 => exact short_take alw s h1 t h2
  | glow => exact (by decide +kernel : (lineD [dS cGlow]).length ≤ 100)
  | late => exact (by decide +kernel : (lineD [dS cLate]).length ≤ 100)
theorem GoodW.words {es : List PyData} (h : GoodW es) : es.length ≤ 3 ∧ ∀ e ∈ es, okT e := by
  obtain ⟨ds, e, _, h3, h4⟩ := isW_words h.isW
  cases e
  exact ⟨h3, h4⟩
theorem lnd_take {L : Nat} {ds : List PyData} (h : ∀ d ∈ ds, LnD d L) (n : Nat) : ∀ d ∈ ds.take n, LnD d L := fun d hd => h d (List.mem_of_mem_take hd)
theorem lnd_drop {L : Nat} {ds : List PyData} (h : ∀ d ∈ ds, LnD d L) (n : Nat) : ∀ d ∈ ds.drop n, LnD d L := fun d hd => h d (List.mem_of_mem_drop hd)
theorem lnd_app {L : Nat} {ds es : List PyData} (h : ∀ d ∈ ds, LnD d L) (k : ∀ d ∈ es, LnD d L) : ∀ d ∈ ds ++ es, LnD d L := fun d hd => (List.mem_append.mp hd).elim (h d) (k d)
section
variable {P : Program} {w : World} {K : PySem.W.Frag} {mg : Str → Option Value} {base : Heap} {C_GlimError C_BadLine C_BadWeather C_Lines : Addr}
def p_L_spoilt (K : PySem.W.Frag) : P2 := fun x y H Q _ => ∃ Hk dd A L ds, x = .ref dd.a ∧ Dr K dd Hk H ∧ Same A Hk ∧ At A y (.list ds) ∧ (∀ d ∈ ds, LnD d L) ∧ 100 ≤ L ∧ L ≤ 2000 ∧ ds.length ≤ 50 ∧
  ∀ Hk' H' A' v es, Ext A Hk A' Hk' → Dr K dd Hk' H' → At A' v (.list es) → (∀ e ∈ es, LnD e (3 * L + 200)) → es.length ≤ ds.length + 5 → Q v H'
theorem ok_L_spoilt (T : Txt K mg C_GlimError C_BadLine C_BadWeather C_Lines) : OK P w K mg base CX0 5 "_law_spoilt" ["_law_draw_here", "_law_lines"] (sp2  (p_L_spoilt K)) := by
  refine OK.mk (k := 4) T.d_L_spoilt sc_L_spoilt len2 fun f cdv A outer s H vs Q E hr h => ?_
  obtain ⟨x, y, rfl, h⟩ := h
  refine ⟨_, (pss_cons (ps_set (i := 2) sc_L_spoilt.nd rfl (Or.inl rfl) (pe_f (ok_L_pick (K := K) T) (hr.mono (by decide)) pass0 (pa_cons (pv 0) (pa_cons (pe_op (opAdd K) (pe_callB (cLen K) (by rfl) T.b_len (by decide +kernel) (pa_cons (pv 1) pa_nil)) pe_int) pa_nil)))) (pss_cons (ps_set (i := 3) sc_L_spoilt.nd rfl (Or.inl rfl) (pe_f (ok_L_pick (K := K) T) (hr.mono (by decide)) pass0 (pa_cons (pv 0) (pa_cons pe_int pa_nil)))) (pss_cons (ps_if (pt_cmpR (opEq K hr.units) (pv 3) pe_int (nomark _)) (pss_one (ps_ret (pe_op (opAdd K) (pe_slice (slK K) (pv 1) po_none (po_some (pv 2))) (pe_slice (slK K) (pv 1) (po_some (pe_op (opAdd K) (pv 2) pe_int)) po_none)))) pss_nil) (pss_cons (ps_if (pt_cmpR (opEq K hr.units) (pv 3) pe_int (nomark _)) (pss_one (ps_ret (pe_op (opAdd K) (pe_op (opAdd K) (pe_slice (slK K) (pv 1) po_none (po_some (pv 2))) (pe_lst (pa_cons (pe_f (ok_L_line (K := K) T) (hr.mono (by decide)) pass0 (pa_cons (pe_f (ok_L_weather (K := K) T) (hr.mono (by decide)) pass0 (pa_cons (pv 0) pa_nil)) pa_nil)) pa_nil))) (pe_slice (slK K) (pv 1) (po_some (pv 2)) po_none)))) pss_nil) (pss_cons (ps_if (pt_cmpR (opEq K hr.units) (pv 3) pe_int (nomark _)) (pss_one (ps_ret (pe_op (opAdd K) (pe_op (opAdd K) (pe_slice (slK K) (pv 1) po_none (po_some (pv 2))) (pe_op op_mulP (pe_lst (pa_cons (pe_S [103, 108, 111, 119]) pa_nil)) pe_int)) (pe_slice (slK K) (pv 1) (po_some (pv 2)) po_none)))) pss_nil) (pss_cons (ps_if (pt_cmpR op_ltP (pv 3) pe_int (nomark _)) (pss_one (ps_ret (pe_op (opAdd K) (pe_op (opAdd K) (pe_slice (slK K) (pv 1) po_none (po_some (pv 2))) (pe_lst (pa_cons (pe_f (ok_L_near (K := K) T) (hr.mono (by decide)) pass0 (pa_cons (pv 0) pa_nil)) pa_nil))) (pe_slice (slK K) (pv 1) (po_some (pe_op (opAdd K) (pv 2) (pe_f (ok_L_pick (K := K) T) (hr.mono (by decide)) pass0 (pa_cons (pv 0) (pa_cons pe_int pa_nil))))) po_none)))) pss_nil) (pss_cons (ps_set (i := 4) sc_L_spoilt.nd rfl (Or.inl rfl) (pe_f (ok_L_line (K := K) T) (hr.mono (by decide)) pass0 (pa_cons (pe_f (ok_L_weather (K := K) T) (hr.mono (by decide)) pass0 (pa_cons (pv 0) pa_nil)) pa_nil))) (Evl.pss_cut (ps_if (pw_and (pt_cmpR op_ltP (pv 2) (pe_callB (cLen K) (by rfl) T.b_len (by decide +kernel) (pa_cons (pv 1) pa_nil)) (nomark _)) (pw_and1 (pt_val (pe_callB (cIsi K) (by rfl) T.b_isinstance (by decide +kernel) (pa_cons (pe_ix (ixK K) (pv 1) (pv 2) (fun _ _ => rfl)) (pa_cons (pe_bltn (v := .ty "str") (by rfl) T.b_str (by decide +kernel) rfl) pa_nil)))))).pt (pss_one (ps_set (i := 4) sc_L_spoilt.nd rfl (Or.inl rfl) (pe_ix (ixK K) (pv 1) (pv 2) (fun _ _ => rfl)))) pss_nil) (pss_one (ps_ret (pe_op (opAdd K) (pe_op (opAdd K) (pe_slice (slK K) (pv 1) po_none (po_some (pv 2))) (pe_lst (pa_cons (pe_f (ok_L_spoilt_line (K := K) T) (hr.mono (by decide)) pass0 (pa_cons (pv 0) (pa_cons (pv 4) pa_nil))) pa_nil))) (pe_slice (slK K) (pv 1) (po_some (pe_op (opAdd K) (pv 2) pe_int)) po_none)))))))))))), ?_⟩
  show (_ : TS) { nx := fun _ H' => Q .non H', rt := Q } [some x, some y, none, none, none] H
  obtain ⟨Hk, dd, A0, L, ds, rfl, dr, sa, hy, ln, hL1, hL2, h50, q⟩ := h
  obtain ⟨a, xs, rfl, hA, hl, al⟩ := hy.listed
  have ll := al.len
  have ln3 : ∀ d ∈ ds, LnD d (3 * L + 200) := fun d hd => (ln d hd).mono (by omega)
  have hk := sa _ _ hA
  walk_at "go"
  refine i_len_lst (.inl (.inl (dr.old hk))) ?_
  walk_at "go"
  refine ⟨Hk, dd, _, rfl, rfl, dr, by omega, fun pl G1 dr1 bp => ?_⟩
  have p0 := bp.1
  have p1 : pl < (xs.length : Int) + 1 := by
    by_cases z : 2 ≤ (xs.length : Int) + 1
    · exact bp.2.1 z
    · have := bp.2.2 (by omega); omega
  obtain ⟨p, rfl⟩ := Int.eq_ofNat_of_zero_le p0
  have ep : (p : Int) + 1 = ((p + 1 : Nat) : Int) := by omega
  walk_at "go"
  refine ⟨Hk, dd, 8, rfl, rfl, dr1, by decide, fun kd G2 dr2 bk => ?_⟩
  have k0 := bk.1
  have k8 := bk.2.1 (by decide)
  have x0 : Ext A0 Hk A0 Hk := Ext.refl sa
  have fin : ∀ {G A1 Hk1 : Hp} {r : Addr} {zs : List V} {es : List PyData}, Ext A0 Hk A1 Hk1 → Dr K dd Hk1 G → G r = none → AtAll A1 zs es → (∀ e ∈ es, LnD e (3 * L + 200)) → es.length ≤ ds.length + 5 → Q (.ref r) (upd G r (.lst zs)) := fun {G A1 Hk1 r zs es} x d n h1 h2 h3 =>
    q _ _ _ _ es (x.new (d.free n)) (d.new n) (At.mkLst upd_same (h1.same (same_upd (x.ag.free (d.free n)))) (by omega)) h2 h3
  walk_at "go"
  refine i_dec (fun e0 => ?_) (fun e0 => ?_)
  · walk_at "go"
    refine i_slL (.inl (.inl (dr2.old hk))) fun l1 n1 => ?_
    rw [cutV_to]
    walk_at "go"
    have d3 := dr2.same (same_upd (o := .lst (xs.take p)) n1)
    refine i_slL (.inl (.inl (d3.old hk))) fun l2 n2 => ?_
    rw [ep, cutV_fr]
    have d4 := d3.same (same_upd (o := .lst (xs.drop (p + 1))) n2)
    refine i_catL ((upd_ne (ne_of_none upd_same n2)).trans upd_same) upd_same (by rw [List.length_take, List.length_drop]; omega) fun l3 n3 => ?_
    exact fin x0 d4 n3 ((al.take p).app (al.drop (p + 1))) (lnd_app (lnd_take ln3 _) (lnd_drop ln3 _)) (by rw [List.length_append, List.length_take, List.length_drop]; omega)
  walk_at "go"
  refine i_dec (fun e1 => ?_) (fun e1 => ?_)
  · walk_at "go"
    refine i_slL (.inl (.inl (dr2.old hk))) fun l1 n1 => ?_
    rw [cutV_to]
    have k1 := dr2.free n1
    have d3 := dr2.new (o := .lst (xs.take p)) n1
    have x1 := x0.hid (o := .lst (xs.take p)) k1
    walk_at "go"
    refine ⟨_, dd, rfl, d3, fun t us es G3 nt d4 gw aw => ?_⟩
    obtain ⟨w3, wo⟩ := gw.words
    walk_at "go"
    refine ⟨_, es, d4.1, At.mkTup upd_same (aw _) (by omega), w3, wo, fun G4 s4 => ?_⟩
    have d5 := (d4.less (o := .tup us) d3.cells nt).same s4
    have g1 := d5.old upd_same
    walk_at "go"
    refine i_new (by show 1 ≤ 100000; omega) fun l2 n2 => ?_
    refine i_catL ((upd_ne (ne_of_none g1 n2)).trans g1) upd_same (by rw [List.length_take]; show _ + 1 ≤ 100000; omega) fun l3 n3 => ?_
    have d6 := (d5.same (same_upd (o := .lst [S (lineD es)]) n2)).same (same_upd (o := .lst (xs.take p ++ [S (lineD es)])) n3)
    walk_at "go"
    refine i_slL (.inl (.inl (d6.old ((upd_ne (ne_of_none hk k1)).trans hk)))) fun l4 n4 => ?_
    rw [cutV_fr]
    have d7 := d6.same (same_upd (o := .lst (xs.drop p)) n4)
    refine i_catL ((upd_ne (ne_of_none upd_same n4)).trans upd_same) upd_same (by rw [List.length_append, List.length_take, List.length_drop]; show _ + 1 + _ ≤ 100000; omega) fun l5 n5 => ?_
    have sh := gw.short
    refine fin x1 d7 n5 (((al.take p).app (.one (.str (lineD es) (by omega)))).app (al.drop p)) (lnd_app (lnd_app (lnd_take ln3 _) fun d hd => ?_) (lnd_drop ln3 _)) (by rw [List.length_append, List.length_append, List.length_take, List.length_drop]; show _ + 1 + _ ≤ _; omega)
    rw [List.mem_singleton.mp hd]
    exact LnD.str (by omega)
  walk_at "go"
  refine i_dec (fun e2 => ?_) (fun e2 => ?_)
  · walk_at "go"
    refine i_slL (.inl (.inl (dr2.old hk))) fun l1 n1 => ?_
    rw [cutV_to]
    have d3 := dr2.same (same_upd (o := .lst (xs.take p)) n1)
    walk_at "go"
    refine i_new (by show 1 ≤ 100000; omega) fun l2 n2 => ?_
    walk_at "go"
    refine .inr (.inr ⟨l2, 5, [S [103, 108, 111, 119]], rfl, rfl, upd_same, by decide, by decide, by decide, fun l3 n3 => ?_⟩)
    have g1 : (upd (upd G2 l1 (.lst (xs.take p))) l2 (.lst [S [103, 108, 111, 119]])) l1 = some (.lst (xs.take p)) := (upd_ne (ne_of_none upd_same n2)).trans upd_same
    refine i_catL ((upd_ne (ne_of_none g1 n3)).trans g1) upd_same (by rw [List.length_take]; show _ + 5 ≤ 100000; omega) fun l4 n4 => ?_
    have d6 := ((d3.same (same_upd (o := .lst [S [103, 108, 111, 119]]) n2)).same (same_upd (o := .lst (List.replicate (5 : Int).toNat [S [103, 108, 111, 119]]).flatten) n3)).same (same_upd (o := .lst (xs.take p ++ (List.replicate (5 : Int).toNat [S [103, 108, 111, 119]]).flatten)) n4)
    walk_at "go"
    refine i_slL (.inl (.inl (d6.old hk))) fun l5 n5 => ?_
    rw [cutV_fr]
    have d7 := d6.same (same_upd (o := .lst (xs.drop p)) n5)
    refine i_catL ((upd_ne (ne_of_none upd_same n5)).trans upd_same) upd_same (by rw [List.length_append, List.length_take, List.length_drop]; show _ + 5 + _ ≤ 100000; omega) fun l6 n6 => ?_
    have g5 : AtAll A0 (List.replicate (5 : Int).toNat [S [103, 108, 111, 119]]).flatten (List.replicate 5 (dS [103, 108, 111, 119])) := AtAll.rep (v := S [103, 108, 111, 119]) (.str _ (by decide)) 5
    refine fin x0 d7 n6 (((al.take p).app g5).app (al.drop p)) (lnd_app (lnd_app (lnd_take ln3 _) fun d hd => ?_) (lnd_drop ln3 _)) (by rw [List.length_append, List.length_append, List.length_take, List.length_drop, List.length_replicate]; omega)
    rw [List.eq_of_mem_replicate hd]
    exact LnD.str (by show 4 ≤ _; omega)
  walk_at "go"
  refine i_dec (fun e3 => ?_) (fun e3 => ?_)
  · walk_at "go"
    refine i_slL (.inl (.inl (dr2.old hk))) fun l1 n1 => ?_
    rw [cutV_to]
    have k1 := dr2.free n1
    have d3 := dr2.new (o := .lst (xs.take p)) n1
    have x1 := x0.hid (o := .lst (xs.take p)) k1
    walk_at "go"
    refine ⟨_, dd, rfl, d3, fun w G3 d5 hw => ?_⟩
    have g1 := d5.old upd_same
    walk_at "go"
    refine i_new (by show 1 ≤ 100000; omega) fun l2 n2 => ?_
    refine i_catL ((upd_ne (ne_of_none g1 n2)).trans g1) upd_same (by rw [List.length_take]; show _ + 1 ≤ 100000; omega) fun l3 n3 => ?_
    have d6 := (d5.same (same_upd (o := .lst [S w]) n2)).new (o := .lst (xs.take p ++ [S w])) n3
    have kn3 := (d5.same (same_upd (o := .lst [S w]) n2)).free n3
    have x2 := x1.hid (o := .lst (xs.take p ++ [S w])) kn3
    have hk1 : (upd Hk l1 (.lst (xs.take p))) a = some (.lst xs) := (upd_ne (ne_of_none hk k1)).trans hk
    have hk2 : (upd (upd Hk l1 (.lst (xs.take p))) l3 (.lst (xs.take p ++ [S w]))) a = some (.lst xs) := (upd_ne (ne_of_none hk1 kn3)).trans hk1
    walk_at "go"
    refine ⟨_, dd, 2, rfl, rfl, d6, by decide, fun n G4 d7 bn => ?_⟩
    have b0 := bn.1
    obtain ⟨m, rfl⟩ := Int.eq_ofNat_of_zero_le b0
    walk_at "go"
    have epm : (p : Int) + (m : Int) = ((p + m : Nat) : Int) := by omega
    refine i_slL (.inl (.inl (d7.old hk2))) fun l4 n4 => ?_
    rw [epm, cutV_fr]
    have d8 := d7.same (same_upd (o := .lst (xs.drop (p + m))) n4)
    refine i_catL ((upd_ne (ne_of_none (d7.old upd_same) n4)).trans (d7.old upd_same)) upd_same (by rw [List.length_append, List.length_take, List.length_drop]; show _ + 1 + _ ≤ 100000; omega) fun l5 n5 => ?_
    refine fin x2 d8 n5 (((al.take p).app (.one (.str w (by omega)))).app (al.drop (p + m))) (lnd_app (lnd_app (lnd_take ln3 _) fun d hd => ?_) (lnd_drop ln3 _)) (by rw [List.length_append, List.length_append, List.length_take, List.length_drop]; show _ + 1 + _ ≤ _; omega)
    rw [List.mem_singleton.mp hd]
    exact LnD.str (by omega)
  walk_at "go"
  refine ⟨_, dd, rfl, dr2, fun t us es G3 nt d4 gw aw => ?_⟩
  obtain ⟨w3, wo⟩ := gw.words
  walk_at "go"
  refine ⟨_, es, d4.1, At.mkTup upd_same (aw _) (by omega), w3, wo, fun G4 s4 => ?_⟩
  have d5 := (d4.less (o := .tup us) dr2.cells nt).same s4
  have sh := gw.short
  walk_at "go"
  refine i_cut (fun σ H' => ∃ l : List Nat, σ = [some (.ref dd.a), some (.ref a), some (.int (p : Int)), some (.int kd), some (S l)] ∧ H' = G4 ∧ l.length ≤ L) ?_ ?_
  · walk_at "go"
    have hG := d5.old hk
    refine i_len_lst (.inl (.inl hG)) ?_
    walk_at "go"
    refine i_dec (fun e4 => ?_) (fun e4 => ⟨_, rfl, rfl, by omega⟩)
    have hp : p < xs.length := by omega
    have hx : xs[p]? = some xs[p] := List.getElem?_eq_getElem hp
    generalize xs[p] = v at hx
    obtain ⟨d, hd, ad⟩ := al.get hx
    walk_at "go"
    refine i_ix_lst (v := v) (.inl (.inl hG)) (atI_nat hx) ?_
    have av := ad.same (sa.trans d5.1)
    cases ed : isStrD d with
    | false =>
      walk_at "go"
      refine i_isiStr false av ed ?_
      walk_at "go"
      exact ⟨_, rfl, rfl, by omega⟩
    | true =>
      obtain ⟨z, rfl⟩ : ∃ z, d = .str z := by
        cases d <;> first
          | exact ⟨_, rfl⟩
          | cases ed
      obtain ⟨l, rfl, rfl, hl2⟩ := ad.strl
      have lz := (ln _ (List.mem_of_getElem? hd)).2.2 _ rfl
      rw [str_len] at lz
      walk_at "go"
      refine i_ix_lst (v := S l) (.inl (.inl hG)) (atI_nat hx) ?_
      walk_at "go"
      exact ⟨l, rfl, rfl, lz⟩
  · rintro σ H' ⟨l, rfl, rfl, hl0⟩
    walk_at "go"
    refine i_slL (.inl (.inl (d5.old hk))) fun l1 n1 => ?_
    rw [cutV_to]
    have k1 := d5.free n1
    have d6 := d5.new (o := .lst (xs.take p)) n1
    have x1 := x0.hid (o := .lst (xs.take p)) k1
    walk_at "go"
    refine ⟨_, dd, l, A0, rfl, rfl, by omega, d6, x1.ag, fun Hk2 G5 A2 v d x2 d7 av lv => ?_⟩
    have x3 := x1.trans x2
    have g1 : Hk2 l1 = some (.lst (xs.take p)) := x2.gg _ _ upd_same
    have hk2 : Hk2 a = some (.lst xs) := x2.gg _ _ ((upd_ne (ne_of_none hk k1)).trans hk)
    walk_at "go"
    refine i_new (by show 1 ≤ 100000; omega) fun l2 n2 => ?_
    have g1' := d7.old g1
    refine i_catL ((upd_ne (ne_of_none g1' n2)).trans g1') upd_same (by rw [List.length_take]; show _ + 1 ≤ 100000; omega) fun l3 n3 => ?_
    have d8 := (d7.same (same_upd (o := .lst [v]) n2)).same (same_upd (o := .lst (xs.take p ++ [v])) n3)
    walk_at "go"
    refine i_slL (.inl (.inl (d8.old hk2))) fun l4 n4 => ?_
    rw [ep, cutV_fr]
    have d9 := d8.same (same_upd (o := .lst (xs.drop (p + 1))) n4)
    refine i_catL ((upd_ne (ne_of_none upd_same n4)).trans upd_same) upd_same (by rw [List.length_append, List.length_take, List.length_drop]; show _ + 1 + _ ≤ 100000; omega) fun l5 n5 => ?_
    have al2 := al.same x3.aa
    refine fin x3 d9 n5 (((al2.take p).app (.one av)).app (al2.drop (p + 1))) (lnd_app (lnd_app (lnd_take ln3 _) fun e he => ?_) (lnd_drop ln3 _)) (by rw [List.length_append, List.length_append, List.length_take, List.length_drop]; show _ + 1 + _ ≤ _; omega)
    rw [List.mem_singleton.mp he]
    exact lv.mono (by omega)
end
end K12
namespace K12
open PySem PySem.Spec PyProof.Rows L2 Fg
local macro_rules | `(tactic| walk_at "sq") => `(tactic| first
  | assumption
  | exact .inl (.inl (by assumption))
  | exact .inl (.inl upd_same))
local macro_rules | `(tactic| walk_at "st") => `(tactic| first
  | assumption
  | exact .inl (.inl (by assumption))
  | exact .inl (.inl upd_same))
local macro_rules | `(tactic| walk_at "o") => `(tactic| first
  | omega
  | assumption
  | (simp only [List.length_append, List.length_take, List.length_drop, List.length_cons, List.length_nil, List.length_singleton, List.length_map, List.length_range, Int.toNat_natCast] ; omega))
local macro_rules | `(tactic| walk_at "s") => `(tactic| first
  | (with_reducible refine i_seq ?_)
  | (with_reducible refine i_asg ?_)
  | ((with_reducible refine' i_var ?h1 ?_); (case h1 => rfl))
  | (with_reducible refine i_c ?_)
  | ((with_reducible refine' i_gname' ?h1 ?_); (case h1 => (simp only [List.set_cons_zero, List.set_cons_succ]; rfl)))
  | (with_reducible refine i_op ?_)
  | (with_reducible refine i_ifS ?_)
  | (with_reducible refine i_for ?_)
  | (with_reducible refine i_test ?_)
  | (with_reducible refine i_B ?_)
  | (with_reducible refine i_exbl ?_)
  | (with_reducible refine i_exint ?_)
  | (with_reducible refine i_cb ?_)
  | (with_reducible refine i_nil ?_)
  | (with_reducible refine i_cons ?_)
  | (with_reducible refine i_ret ?_)
  | (with_reducible refine i_sl ?_)
  | (with_reducible refine i_nopart ?_)
  | (with_reducible refine i_part ?_)
  | (with_reducible refine i_add_int ?_)
  | (with_reducible refine i_sub ?_)
  | (with_reducible refine i_lt ?_)
  | ((with_reducible refine' i_mod ?h1 ?_); (case h1 => walk_at "o"))
  | ((with_reducible refine' i_fdiv ?h1 ?_); (case h1 => (refine cdiv_small ?_ ?_ <;> walk_at "o")))
  | ((with_reducible refine' i_sl_to ?h1 ?h2 ?_); (case h1 => walk_at "o"); (case h2 => walk_at "o"))
  | ((with_reducible refine' i_sl_from ?h1 ?h2 ?_); (case h1 => walk_at "o"); (case h2 => walk_at "o"))
  | ((with_reducible refine' i_add_str ?h1 ?_); (case h1 => walk_at "o"))
  | ((with_reducible refine' i_mul_int ?h1 ?_); (case h1 => first | (refine mul_small ?_ ?_ <;> walk_at "o") | (refine mul_smallR ?_ ?_ <;> walk_at "o")))
  | (with_reducible refine i_le ?_)
  | (with_reducible refine i_gt ?_)
  | (with_reducible refine i_ge ?_)
  | (with_reducible refine i_eq_int ?_)
  | (with_reducible refine i_eq_str ?_)
  | (with_reducible refine i_ne_int ?_)
  | (with_reducible refine i_ne_str ?_)
  | (with_reducible refine i_eq_bl ?_)
  | (with_reducible refine i_ne_bl ?_)
  | (with_reducible refine i_in_sg ?_)
  | (with_reducible refine i_notIn_sg ?_)
  | (with_reducible refine i_call ?_)
  | (with_reducible refine i_callS ?_)
  | (with_reducible refine i_sp1 ?_)
  | (with_reducible refine i_sp2 ?_)
  | (with_reducible refine i_sp3 ?_)
  | (with_reducible refine i_sp4 ?_)
  | (with_reducible refine i_sp1' ?_)
  | (with_reducible refine i_sp2' ?_)
  | (with_reducible refine i_sp3' ?_)
  | ((with_reducible refine' i_ix_lst ?h1 ?h2 ?_); (case h1 => walk_at "sq"); (case h2 => first | exact atI_nat rfl | rfl))
  | ((with_reducible refine' i_ix_tup ?h1 ?h2 ?_); (case h1 => walk_at "st"); (case h2 => first | exact atI_nat rfl | rfl))
  | (with_reducible refine i_gsub ?_)
  | (with_reducible refine i_par ?_)
  | (with_reducible refine i_lstRg1 ?_)
  | (with_reducible refine i_app ?_)
  | (with_reducible refine i_par2 ?_)
  | ((with_reducible refine' i_aug ?h1 ?_); (case h1 => rfl))
  | (with_reducible refine i_ipI ?_)
  | ((with_reducible refine' i_gtup2 ?h1 ?_); (case h1 => walk_at "st"))
  | (with_reducible refine i_int_bl ?_)
  | (with_reducible refine i_raise ?_)
  | (with_reducible refine i_mkE ?_)
  | (with_reducible refine i_ex1 ?_)
  | (with_reducible refine i_and ?_)
  | (with_reducible refine i_or ?_)
  | (with_reducible refine i_not ?_)
  | (with_reducible refine i_tt ?_)
  | (with_reducible refine i_ff ?_)
  | (with_reducible refine i_nott ?_)
  | (with_reducible refine i_notf ?_)
  | (with_reducible refine i_andV ?_)
  | (with_reducible refine i_orV ?_)
  | (with_reducible refine i_notV ?_)
  | (with_reducible refine i_ifE ?_)
  | (with_reducible refine i_tup ?_)
  | (with_reducible refine i_lst ?_)
  | (with_reducible refine i_un ?_)
  | (with_reducible refine i_neg ?_)
  | (with_reducible refine i_chain ?_)
  | (with_reducible refine i_next ?_)
  | (with_reducible refine i_retN ?_)
  | (with_reducible refine i_drop ?_)
  | (with_reducible refine i_int_int ?_)
  | (with_reducible refine i_abs ?_)
  | (with_reducible refine i_m1c ?_)
  | (with_reducible refine i_is_non ?_)
  | (with_reducible refine i_is_int ?_)
  | (with_reducible refine i_is_bl ?_)
  | (with_reducible refine i_isn_bl ?_)
  | (with_reducible refine i_is_str ?_)
  | (with_reducible refine i_is_ref ?_)
  | (with_reducible refine i_isn_non ?_)
  | (with_reducible refine i_isn_int ?_)
  | (with_reducible refine i_isn_str ?_)
  | (with_reducible refine i_isn_ref ?_)
  | (with_reducible refine i_len_str ?h1 ?_; (case h1 => walk_at "o"))
  | (with_reducible refine i_callD ?_)
  | (with_reducible refine i_spD2 ?_)
  | (with_reducible refine i_spM1 ?_)
  | (with_reducible refine i_spM2 ?_)
  | (with_reducible refine i_spM3 ?_)
  | (with_reducible refine i_spM4 ?_)
  | (with_reducible refine i_spM3d ?_)
  | (with_reducible refine i_tfld ?_)
  | (with_reducible refine i_sfld ?_)
  | (with_reducible refine i_meth ?_)
  | (with_reducible refine i_make ?_)
  | (with_reducible refine i_spl ?_)
  | (with_reducible refine i_mkE2 ?_)
  | (with_reducible refine i_ex2 ?_)
  | (with_reducible refine i_dget ?_)
  | (with_reducible refine i_tru ?_)
  | (with_reducible refine i_dput ?_)
  | (with_reducible refine i_dnotin ?_)
  | (with_reducible refine i_din ?_)
  | (with_reducible refine i_isi_int_int ?_) | (with_reducible refine i_isi_int_bool ?_) | (with_reducible refine i_isi_int_str ?_) | (with_reducible refine i_isi_int_tuple ?_) | (with_reducible refine i_isi_int_list ?_)
  | (with_reducible refine i_isi_bl_int ?_) | (with_reducible refine i_isi_bl_bool ?_) | (with_reducible refine i_isi_bl_str ?_) | (with_reducible refine i_isi_bl_tuple ?_) | (with_reducible refine i_isi_bl_list ?_)
  | (with_reducible refine i_isi_str_int ?_) | (with_reducible refine i_isi_str_bool ?_) | (with_reducible refine i_isi_str_str ?_) | (with_reducible refine i_isi_str_tuple ?_) | (with_reducible refine i_isi_str_list ?_)
  | (with_reducible refine i_isi_non_int ?_) | (with_reducible refine i_isi_non_bool ?_) | (with_reducible refine i_isi_non_str ?_) | (with_reducible refine i_isi_non_tuple ?_) | (with_reducible refine i_isi_non_list ?_))
local macro_rules | `(tactic| walk_at "go") => `(tactic| (repeat' (walk_at "s")))
local macro_rules | `(tactic| walk_at "n") => `(tactic| simp only [wipe, List.map_cons, List.map_nil, List.set_cons_zero, List.set_cons_succ])
abbrev tups (wss : List (List PyData)) : List PyData := wss.map .tuple
abbrev lins (wss : List (List PyData)) : List PyData := wss.map fun es => dS (lineD es)
theorem GoodW.fw {es : List PyData} (h : GoodW es) : FlatW (.tuple es) := ⟨es, rfl, h.flat⟩
theorem bad_good {wss : List (List PyData)} (h : ∀ es ∈ wss, GoodW es) (hl : wss.length ≤ 6) : badW (.tuple (tups wss)) = none := by
  rw [← badL_W]
  unfold badL
  rw [if_neg (by rw [List.length_map]; omega), badAt_none fun k hk c hc => ?_]
  · rfl
  · have hc' := List.mem_of_getElem? hc
    obtain ⟨es, he, rfl⟩ := List.mem_map.mp hc'
    rw [(h es he).fw.deep]
    exact (h es he).isW
theorem writ_of {e : PyData} {ds : List PyData} (he : deepD e = .tuple ds) (hb : badW (.tuple ds) = none) : writD e = .tuple [dS cLines, .tuple (ds.map fun w => dS (lineW w))] := by
  simp only [writD, he, hb]
theorem writ_good {e : PyData} {wss : List (List PyData)} (he : deepD e = .tuple (tups wss)) (h : ∀ es ∈ wss, GoodW es) (hl : wss.length ≤ 6) : writD e = .tuple [dS cLines, .tuple (lins wss)] := by
  rw [writ_of he (bad_good h hl), List.map_map]
  rfl
theorem read_good : ∀ (wss : List (List PyData)) (n : Nat), (∀ es ∈ wss, GoodW es) → readAll (lins wss) n = .inl (tups wss)
  | [], _, _ => rfl
  | es :: r, n, h => by
    have e1 := (h es (List.mem_cons_self ..)).read
    have e2 := read_good r (n + 1) fun x hx => h x (List.mem_cons_of_mem _ hx)
    simp only [lins, tups, List.map_cons] at e2 ⊢
    simp only [readAll, e1, e2]
theorem readD_good {e : PyData} {wss : List (List PyData)} (he : e = .list (lins wss) ∨ e = .tuple (lins wss)) (h : ∀ es ∈ wss, GoodW es) (hl : wss.length ≤ 6) : readD e = .tuple [dS cRead, .tuple (tups wss)] := by
  have e1 : dueD (lins wss) = .tuple [dS cRead, .tuple (tups wss)] := by
    simp only [dueD, read_good wss 0 h, dueA, bad_good h hl]
  rcases he with rfl | rfl <;> exact e1
/-! ### what is shown of them -/
mutual
theorem deep_show : ∀ d : PyData, (deepD d).showable = d.showable ∧ (deepD d).leavesShort 400 = d.leavesShort 400 ∧ (deepD d).bulk = d.bulk
  | .list ds => by
    have h := deep_shows ds
    show (PyData.tuple (deepD.deepDs ds)).showable = _ ∧ (PyData.tuple (deepD.deepDs ds)).leavesShort 400 = _ ∧ (PyData.tuple (deepD.deepDs ds)).bulk = _
    simp only [PyData.showable, PyData.leavesShort, PyData.bulk]
    exact h
  | .tuple ds => by
    have h := deep_shows ds
    show (PyData.tuple (deepD.deepDs ds)).showable = _ ∧ (PyData.tuple (deepD.deepDs ds)).leavesShort 400 = _ ∧ (PyData.tuple (deepD.deepDs ds)).bulk = _
    simp only [PyData.showable, PyData.leavesShort, PyData.bulk]
    exact h
  | .none => ⟨rfl, rfl, rfl⟩
  | .bool _ => ⟨rfl, rfl, rfl⟩
  | .int _ => ⟨rfl, rfl, rfl⟩
  | .str _ => ⟨rfl, rfl, rfl⟩
  | .dict _ => ⟨rfl, rfl, rfl⟩
theorem deep_shows : ∀ ds : List PyData, PyData.showableAll (deepD.deepDs ds) = PyData.showableAll ds ∧ PyData.leavesShortAll 400 (deepD.deepDs ds) = PyData.leavesShortAll 400 ds ∧ PyData.bulkAll (deepD.deepDs ds) = PyData.bulkAll ds
  | [] => ⟨rfl, rfl, rfl⟩
  | d :: r => by
    obtain ⟨a, b, c⟩ := deep_show d
    obtain ⟨a2, b2, c2⟩ := deep_shows r
    show PyData.showableAll (deepD d :: deepD.deepDs r) = _ ∧ PyData.leavesShortAll 400 (deepD d :: deepD.deepDs r) = _ ∧ PyData.bulkAll (deepD d :: deepD.deepDs r) = _
    simp only [PyData.showableAll, PyData.leavesShortAll, PyData.bulkAll, a, b, c, a2, b2, c2, and_self]
end
theorem rp_deep {m : Nat} {d : PyData} (h : Rp m (deepD d)) : Rp m d := by
  obtain ⟨a, b, c⟩ := deep_show d
  exact ⟨a ▸ h.sh, b ▸ h.lv, c ▸ h.bk⟩
theorem rp_small {n : Nat} (h : n < 10) : Rp 7 (.int (n : Int)) := Rp.int (by
  have : ((n : Nat) : Int).natAbs = n := rfl
  rw [this]
  exact Nat.lt_of_lt_of_le h (by decide))
theorem GoodW.rp {es : List PyData} (h : GoodW es) : Rp 24 (.tuple es) := by
  have w : ∀ l : List Nat, l.length ≤ 7 → (∀ c ∈ l, c < 16 ^ 8) → Rp 7 (dS l) := fun l a b => Rp.str a b
  have small : ∀ c ∈ SG, c < 16 ^ 8 := by decide
  have smallL : ∀ c ∈ LT, c < 16 ^ 8 := by decide
  have fit : ∀ ds : List PyData, ds.length ≤ 3 → (∀ d ∈ ds, Rp 7 d) → Rp 24 (.tuple ds) := fun ds a b => (Rp.tuple b).mono (by omega)
  refine fit es h.words.1 fun d hd => ?_
  cases h with
  | lose n h1 h2 =>
    rcases List.mem_cons.mp hd with rfl | hd
    · exact w _ (by decide) (by decide)
    · rw [List.mem_singleton.mp hd]; exact rp_small (by omega)
  | miss a b h1 h2 h3 h4 =>
    rcases List.mem_cons.mp hd with rfl | hd
    · exact w _ (by decide) (by decide)
    · rcases List.mem_cons.mp hd with rfl | hd
      · exact rp_small (by omega)
      · rw [List.mem_singleton.mp hd]; exact rp_small (by omega)
  | take alw s t h1 h2 h3 =>
    rcases List.mem_cons.mp hd with rfl | hd
    · cases alw <;> exact w _ (by decide) (by decide)
    · rcases List.mem_cons.mp hd with rfl | hd
      · exact w _ (by show 1 ≤ 7; decide) fun c hc => by rw [List.mem_singleton.mp hc]; exact smallL _ h1
      · rw [List.mem_singleton.mp hd]
        exact w _ (by show 1 ≤ 7; decide) fun c hc => by rw [List.mem_singleton.mp hc]; exact small _ h2
  | glow => rw [List.mem_singleton.mp hd]; exact w _ (by decide) (by decide)
  | late => rw [List.mem_singleton.mp hd]; exact w _ (by decide) (by decide)
theorem chars_lose : ∀ n < 10, ∀ c ∈ lineD [dS cLose, .int ((n : Nat) : Int)], c < 256 := by decide +kernel
theorem chars_miss : ∀ a < 3, ∀ b < 9, ∀ c ∈ lineD [dS cMiss, .int ((a : Nat) : Int), .int ((b : Nat) : Int)], c < 256 := by decide +kernel
theorem chars_take : ∀ alw : Bool, ∀ s ∈ LT, ∀ t ∈ SG, ∀ c ∈ lineD [dS (if alw then cAlw else cTake), dS [s], dS [t]], c < 256 := by decide +kernel
theorem chars_glow : ∀ c ∈ lineD [dS cGlow], c < 256 := by decide +kernel
theorem chars_late : ∀ c ∈ lineD [dS cLate], c < 256 := by decide +kernel
theorem GoodW.chars {es : List PyData} (h : GoodW es) : ∀ c ∈ lineD es, c < 256 := by
  cases h with
  | lose n h1 h2 => exact chars_lose n (by omega)
  | miss a b h1 h2 h3 h4 => exact chars_miss a (by omega) b (by omega)
  | take alw s t h1 h2 h3 => exact chars_take alw s h1 t h2
  | glow => exact chars_glow
  | late => exact chars_late
theorem rp_tups {wss : List (List PyData)} (h : ∀ es ∈ wss, GoodW es) (hl : wss.length ≤ 6) : Rp 150 (.tuple (tups wss)) := by
  refine (Rp.tuple (m := 24) fun d hd => ?_).mono (by rw [List.length_map]; omega)
  obtain ⟨es, he, rfl⟩ := List.mem_map.mp hd
  exact (h es he).rp
theorem rp_lins {wss : List (List PyData)} (h : ∀ es ∈ wss, GoodW es) (hl : wss.length ≤ 6) : Rp 700 (.list (lins wss)) ∧ Rp 700 (.tuple (lins wss)) := by
  have key : ∀ d ∈ lins wss, Rp 100 d := fun d hd => by
    obtain ⟨es, he, rfl⟩ := List.mem_map.mp hd
    exact Rp.str (h es he).short fun c hc => Nat.lt_trans ((h es he).chars c hc) (by decide)
  exact ⟨(Rp.list key).mono (by rw [List.length_map]; omega), (Rp.tuple key).mono (by rw [List.length_map]; omega)⟩
theorem lins_flat (wss : List (List PyData)) : PyData.hasDictAll (lins wss) = false ∧ PyData.depthAll (lins wss) = 0 ∧ deepD.deepDs (lins wss) = lins wss := by
  induction wss with
  | nil => exact ⟨rfl, rfl, rfl⟩
  | cons es r ih =>
    obtain ⟨a, b, c⟩ := ih
    refine ⟨a, ?_, ?_⟩
    · show max 0 (PyData.depthAll (lins r)) = 0
      rw [b]; rfl
    · show dS (lineD es) :: deepD.deepDs (lins r) = _
      rw [c]; rfl
theorem tups_flat {wss : List (List PyData)} (h : ∀ es ∈ wss, GoodW es) : PyData.hasDictAll (tups wss) = false ∧ PyData.depthAll (tups wss) ≤ 1 ∧ deepD.deepDs (tups wss) = tups wss := by
  induction wss with
  | nil => exact ⟨rfl, Nat.zero_le _, rfl⟩
  | cons es r ih =>
    obtain ⟨a, b, c⟩ := ih fun x hx => h x (List.mem_cons_of_mem _ hx)
    have hf := (h es (List.mem_cons_self ..)).fw
    have hn := flat_nodict (h es (List.mem_cons_self ..)).flat
    have hd := flat_depth (h es (List.mem_cons_self ..)).flat
    refine ⟨?_, ?_, ?_⟩
    · show (PyData.hasDictAll es || PyData.hasDictAll (tups r)) = false
      rw [hn, a]; rfl
    · show max (PyData.depthAll es + 1) (PyData.depthAll (tups r)) ≤ 1
      omega
    · show deepD (.tuple es) :: deepD.deepDs (tups r) = _
      rw [c, hf.deep]; rfl
theorem i_ne_same {K : PySem.W.Frag} {H : Hp} {Q : VK} {x : Str} (q : Q (.bl false) H) : neP K (.str x) (.str x) H Q := by
  show neP K (S x.cps.toList) (S x.cps.toList) H Q
  refine i_ne_str ?_
  rw [decide_eq_true rfl]
  exact q
theorem i_eq_same {K : PySem.W.Frag} {H : Hp} {Q : VK} {x : Str} (q : Q (.bl true) H) : eqP K (.str x) (.str x) H Q := by
  show eqP K (S x.cps.toList) (S x.cps.toList) H Q
  refine i_eq_str ?_
  rw [decide_eq_true rfl]
  exact q
theorem seqd {H : Hp} {v : V} {e : PyData} {es : List PyData} (h : At H v e) (he : e = .list es ∨ e = .tuple es) : ∃ a, v = .ref a := by
  rcases he with rfl | rfl
  · obtain ⟨a, _, rfl, _⟩ := h.listed; exact ⟨a, rfl⟩
  · obtain ⟨a, _, rfl, _⟩ := h.tupled; exact ⟨a, rfl⟩
section
variable {P : Program} {w : World} {K : PySem.W.Frag} {mg : Str → Option Value} {base : Heap} {C_GlimError C_BadLine C_BadWeather C_Lines : Addr}
def p_L_there (K : PySem.W.Frag) : P3 := fun x y z H Q _ => ∃ Hk dd A wss, x = .ref dd.a ∧ Dr K dd Hk H ∧ Same A Hk ∧ At A y (.list (tups wss)) ∧ At A z (.list (lins wss)) ∧ (∀ es ∈ wss, GoodW es) ∧ wss.length ≤ 6 ∧
  ∀ Hk' H', Same Hk Hk' → Dr K dd Hk' H' → Q (.bl true) H'
theorem ok_L_there_and_back (T : Txt K mg C_GlimError C_BadLine C_BadWeather C_Lines) : GOK P w K mg base CX0 11 "_law_there_and_back" ["_law_draw_here", "_law_weathers", "_law_lines"] (sp3  (p_L_there K)) := by
  refine GOK.mk (k := 10) T.d_L_there_and_back sc_L_there_and_back len3 fun f cdv A outer s H vs Q E hgu hr h => ?_
  obtain ⟨x, y, z, rfl, h⟩ := h
  refine ⟨_, (pss_cons (ps_set (i := 3) sc_L_there_and_back.nd rfl (Or.inl rfl) (pe_f (ok_L_kinds (K := K) T) (hr.mono (by decide)) pass0 (pa_cons (pv 0) (pa_cons (pv 1) pa_nil)))) (pss_cons (ps_set (i := 4) sc_L_there_and_back.nd rfl (Or.inl rfl) (pe_callB (cReprD K hgu hr.units) (by rfl) T.b_repr (by decide +kernel) (pa_cons (pv 3) pa_nil))) (pss_cons (ps_if (pw_or (pt_not (pt_val (pe_f (ok_L_exact (K := K) T) (hr.mono (by decide)) pass0 (pa_cons (pe_f (ok_L_written (K := K) T) (hr.mono (by decide)) pass0 (pa_cons (pv 3) pa_nil)) (pa_cons (pe_tup (pa_cons (pe_S [108, 105, 110, 101, 115]) (pa_cons (pv 2) pa_nil))) pa_nil))))) (pw_or1 (pt_cmpR (opNe K hr.units) (pe_callB (cReprD K hgu hr.units) (by rfl) T.b_repr (by decide +kernel) (pa_cons (pv 3) pa_nil)) (pv 4) (nomark _)))).pt (pss_one (ps_ret pe_bl)) pss_nil) (pss_cons (ps_set (i := 5) sc_L_there_and_back.nd rfl (Or.inl rfl) (pe_callTy (cListP K) (by rfl) T.b_list (by decide +kernel) (pa_cons (pv 2) pa_nil))) (Evl.pss_cut (ps_if (pt_cmpR (opEq K hr.units) (pe_f (ok_L_pick (K := K) T) (hr.mono (by decide)) pass0 (pa_cons (pv 0) (pa_cons pe_int pa_nil))) pe_int (nomark _)) (pss_one (ps_set (i := 5) sc_L_there_and_back.nd rfl (Or.inl rfl) (pe_callTy (cTup K) (by rfl) T.b_tuple (by decide +kernel) (pa_cons (pv 2) pa_nil)))) pss_nil) (pss_cons (ps_set (i := 4) sc_L_there_and_back.nd rfl (Or.inl rfl) (pe_callB (cReprD K hgu hr.units) (by rfl) T.b_repr (by decide +kernel) (pa_cons (pv 5) pa_nil))) (pss_one (ps_ret (pe_and (pe_f (ok_L_exact (K := K) T) (hr.mono (by decide)) pass0 (pa_cons (pe_f (ok_L_read (K := K) T) (hr.mono (by decide)) pass0 (pa_cons (pv 5) pa_nil)) (pa_cons (pe_tup (pa_cons (pe_S [114, 101, 97, 100]) (pa_cons (pv 1) pa_nil))) pa_nil))) (pe_one (pe_cmpR (opEq K hr.units) (pe_callB (cReprD K hgu hr.units) (by rfl) T.b_repr (by decide +kernel) (pa_cons (pv 5) pa_nil)) (pv 4) (nomark _)))))))))))), ?_⟩
  show (_ : TS) { nx := fun _ H' => Q .non H', rt := Q } [some x, some y, some z, none, none, none] H
  obtain ⟨Hk, dd, A0, wss, rfl, dr, sa, hy, hz, gd, h6, q⟩ := h
  obtain ⟨lnd, ldp, ldd⟩ := lins_flat wss
  obtain ⟨tnd, tdp, tdd⟩ := tups_flat gd
  walk_at "go"
  refine ⟨Hk, dd, A0, tups wss, rfl, dr, sa, hy, fun d hd => ?_, fun Hk1 H1 A1 v e es x1 d1 av he kin => ?_⟩
  · obtain ⟨es, h1, rfl⟩ := List.mem_map.mp hd
    exact (gd es h1).fw
  obtain ⟨kd, knd, kdp⟩ := kin
  have de : deepD e = .tuple (tups wss) := by
    rcases he with rfl | rfl
    · show PyData.tuple (deepD.deepDs es) = _
      rw [deepDs_map, kd]
    · show PyData.tuple (deepD.deepDs es) = _
      rw [deepDs_map, kd]
  have end_ : e.hasDict = false := by rcases he with rfl | rfl <;> exact knd
  have edp : e.depth ≤ 2 := by
    rcases he with rfl | rfl
    · show PyData.depthAll es + 1 ≤ 2; omega
    · show PyData.depthAll es + 1 ≤ 2; omega
  have erp : Rp 150 e := rp_deep (by rw [de]; exact rp_tups gd h6)
  obtain ⟨ha, rfl⟩ := seqd av he
  have avH := av.same (x1.ag.trans d1.1)
  walk_at "go"
  refine i_reprD avH erp (by decide) end_ (by omega) ?_
  walk_at "go"
  refine ⟨A1, e, x1.ag.trans d1.1, av, by omega, fun A2 H2 v2 x2 av2 => ?_⟩
  rw [writ_good de gd h6] at av2
  have hz1 := x2.old (x1.old hz)
  walk_at "go"
  refine i_new (by show 2 ≤ 100000; omega) fun r nr => ?_
  walk_at "go"
  have n2 := x2.ag.free nr
  have due : At (upd A2 r (.tup [S cLines, z])) (.ref r) (.tuple [dS cLines, .list (lins wss)]) := At.mkTup upd_same (.cons (.str _ (by decide)) (.one (hz1.same (same_upd n2)))) (by show 2 ≤ 10000; decide)
  have s2 : Same (upd A2 r (.tup [S cLines, z])) (upd H2 r (.tup [S cLines, z])) := (x2.new nr).ag
  refine ⟨.tuple [dS cLines, .list (lins wss)], ?_, due.same s2, ?_, ?_, fun H3 s3 => ?_⟩
  · have e1 : deepD (.tuple [dS cLines, .list (lins wss)]) = .tuple [dS cLines, .tuple (lins wss)] := by
      show PyData.tuple [dS cLines, .tuple (deepD.deepDs (lins wss))] = _
      rw [ldd]
    rw [e1]
    exact (x2.new nr).up ((av2.same (same_upd n2)))
  · show max 0 (max (PyData.depthAll (lins wss) + 1) 0) + 1 < 7
    rw [ldp]; decide
  · show (false || (PyData.hasDictAll (lins wss) || false)) = false
    rw [lnd]; rfl
  have d3 : Dr K dd Hk1 H3 := ((d1.same x2.gg).same (same_upd nr)).same s3
  walk_at "go"
  refine i_reprD (avH.same ((x2.gg.trans (same_upd nr)).trans s3)) erp (by decide) end_ (by omega) ?_
  walk_at "go"
  refine i_ne_same ?_
  walk_at "go"
  -- the lines, read
  obtain ⟨za, zs, rfl, hzA, zl, zal⟩ := hz.listed
  have hz3 : H3 za = some (.lst zs) := d3.old (x1.ag _ _ (x1.aa _ _ hzA))
  have zlen := zal.len
  rw [List.length_map] at zlen
  refine ⟨za, zs, rfl, .inl (.inl (.inl hz3)), fun l nl => ?_⟩
  walk_at "go"
  have kl := d3.free nl
  have al1 := x1.ag.free kl
  have x3 := x1.new (o := .lst zs) kl
  have d4 := d3.new (o := .lst zs) nl
  have zal1 : AtAll (upd A1 l (.lst zs)) zs (lins wss) := (zal.same x1.aa).same (same_upd al1)
  have lat : At (upd A1 l (.lst zs)) (.ref l) (.list (lins wss)) := At.mkLst upd_same zal1 (by rw [List.length_map]; omega)
  refine i_cut (fun σ H' => ∃ pa Hk4 A4 e4, σ = [some (.ref dd.a), some y, some (.ref za), some (.ref ha), some (.str e.shown), some (.ref pa)] ∧ Ext A0 Hk A4 Hk4 ∧ Dr K dd Hk4 H' ∧ At A4 (.ref pa) e4 ∧ (e4 = .list (lins wss) ∨ e4 = .tuple (lins wss))) ?_ ?_
  · walk_at "go"
    refine ⟨_, dd, 2, rfl, rfl, d4, by decide, fun n H5 d5 b => ?_⟩
    walk_at "go"
    refine i_dec (fun e0 => ?_) (fun e0 => ?_)
    · walk_at "go"
      have hz5 : H5 za = some (.lst zs) := d5.old ((upd_ne (ne_of_none (x1.ag _ _ (x1.aa _ _ hzA)) kl)).trans (x1.ag _ _ (x1.aa _ _ hzA)))
      refine i_tuple_lst (.inl (.inl hz5)) fun t nt => ?_
      walk_at "go"
      have k5 := d5.free nt
      exact ⟨t, _, _, _, rfl, x3.new k5, d5.new nt, At.mkTup upd_same (zal1.same (same_upd (x3.ag.free k5))) (by rw [List.length_map]; omega), .inr rfl⟩
    · walk_at "go"
      exact ⟨l, _, _, _, rfl, x3, d5, lat, .inl rfl⟩
  · rintro σ H5 ⟨pa, Hk4, A4, e4, rfl, x4, d5, pat, he4⟩
    have nd4 : e4.hasDict = false := by rcases he4 with rfl | rfl <;> exact lnd
    have dp4 : e4.depth ≤ 1 := by
      rcases he4 with rfl | rfl
      · show PyData.depthAll (lins wss) + 1 ≤ 1; omega
      · show PyData.depthAll (lins wss) + 1 ≤ 1; omega
    have rp4 : Rp 700 e4 := by rcases he4 with rfl | rfl; exact (rp_lins gd h6).1; exact (rp_lins gd h6).2
    have pH := pat.same (x4.ag.trans d5.1)
    walk_at "go"
    refine i_reprD pH rp4 (by decide) nd4 (by omega) ?_
    walk_at "go"
    refine ⟨A4, e4, x4.ag.trans d5.1, pat, fun A6 H6 v6 x6 av6 => ?_⟩
    rw [readD_good he4 gd h6] at av6
    have hy6 := x6.old (x4.old hy)
    walk_at "go"
    refine i_new (by show 2 ≤ 100000; omega) fun r2 nr2 => ?_
    walk_at "go"
    have n6 := x6.ag.free nr2
    have x7 := x6.new (o := .tup [S cRead, y]) nr2
    have due2 : At (upd A6 r2 (.tup [S cRead, y])) (.ref r2) (.tuple [dS cRead, .list (tups wss)]) := At.mkTup upd_same (.cons (.str _ (by decide)) (.one (hy6.same (same_upd n6)))) (by show 2 ≤ 10000; decide)
    refine ⟨.tuple [dS cRead, .list (tups wss)], ?_, x7.up due2, ?_, ?_, fun H7 s7 => ?_⟩
    · have e1 : deepD (.tuple [dS cRead, .list (tups wss)]) = .tuple [dS cRead, .tuple (tups wss)] := by
        show PyData.tuple [dS cRead, .tuple (deepD.deepDs (tups wss))] = _
        rw [tdd]
      rw [e1]
      exact x7.up (av6.same (same_upd n6))
    · show max 0 (max (PyData.depthAll (tups wss) + 1) 0) + 1 < 7
      omega
    · show (false || (PyData.hasDictAll (tups wss) || false)) = false
      rw [tnd]; rfl
    have s8 := (x6.gg.trans (same_upd nr2)).trans s7
    walk_at "go"
    refine i_reprD (pH.same s8) rp4 (by decide) nd4 (by omega) ?_
    walk_at "go"
    refine i_eq_same ?_
    exact q _ _ x4.gg (d5.same s8)
end
end K12
namespace K12
open PySem PySem.Spec PyProof.Rows L2 Fg
/-! ### lines that can be read are the lines of what they tell -/
theorem dec_one : ∀ c, 49 ≤ c → c ≤ 57 → dec (c - 48) = [c] := by
  intro c h1 h2
  have : ∀ n < 10, dec n = [n + 48] := by decide +kernel
  rw [this (c - 48) (by omega)]
  congr 1
  omega
theorem fm_inv {f : Fm} {w : List Nat} {d : PyData} (h : fmD f w = some d) : txD d = w := by
  cases f with
  | num =>
    have e4 : (numW w).map PyData.int = some d := h
    cases ev : numW w with
    | none => rw [ev] at e4; cases e4
    | some v =>
      rw [ev] at e4
      cases e4
      unfold numW at ev
      split at ev
      · split at ev
        · rename_i c hc
          cases ev
          show dec ((c : Int) - 48).toNat = [c]
          rw [show ((c : Int) - 48).toNat = c - 48 by omega]
          exact dec_one c hc.1 hc.2
        · cases ev
      · cases ev
  | lit =>
    have e4 : (if ltL w then some (dS w) else none) = some d := h
    split at e4
    · cases e4; rfl
    · cases e4
  | sg =>
    have e4 : (if sgL w then some (dS w) else none) = some d := h
    split at e4
    · cases e4; rfl
    · cases e4
theorem readFm_inv {ws : List (List Nat)} : ∀ (fs : List Fm) (k : Nat) (r : List PyData), readFm ws k fs = .inl r → ws.drop k = r.map txD
  | [], k, r, h => by
    unfold readFm at h
    split at h
    · cases h
    · cases h
      rw [List.drop_of_length_le (by omega)]; rfl
  | f :: fs, k, r, h => by
    unfold readFm at h
    split at h
    · rename_i hk
      split at h
      · rename_i d hd
        split at h
        · rename_i r2 hr
          cases h
          have ih := readFm_inv fs (k + 1) r2 hr
          have e := fm_inv hd
          rw [List.getD_eq_getElem?_getD, List.getElem?_eq_getElem hk] at e
          rw [List.drop_eq_getElem_cons hk, ih, List.map_cons, e]
          rfl
        · cases h
      · cases h
    · cases h
theorem readLn_inv {d : PyData} {es : List PyData} (h : readLn d = .inl es) : d = dS (lineD es) := by
  cases d with
  | str x =>
    have h' : (match forms ((wordsOf x).getD 0 []) with
      | none => .inr 0
      | some fs => (match readFm (wordsOf x) 1 fs with | .inl r => .inl (dS ((wordsOf x).getD 0 []) :: r) | .inr e => .inr e)) = Sum.inl es := h
    have wj := words_join x
    have wp := words_pos x
    generalize wordsOf x = ws at *
    split at h'
    · cases h'
    · split at h'
      · rename_i r hr
        cases h'
        have e := readFm_inv _ _ _ hr
        have e0 : ws = ws.getD 0 [] :: ws.drop 1 := by
          cases ws with
          | nil => exact absurd wp (by decide)
          | cons a r => rfl
        show PyData.str x = dS (TL.joinL [32] (ws.getD 0 [] :: r.map txD))
        rw [← e, ← e0, wj]
      · cases h'
  | _ => cases h
theorem readAll_inv : ∀ (ds : List PyData) (n : Nat) (ws : List PyData), readAll ds n = .inl ws → ws.map (fun w => dS (lineW w)) = ds ∧ ∀ w ∈ ws, FlatW w
  | [], n, ws, h => by
    cases h
    exact ⟨rfl, fun w hw => absurd hw (by simp)⟩
  | d :: r, n, ws, h => by
    unfold readAll at h
    split at h
    · cases h
    · rename_i es he
      split at h
      · rename_i w2 hr
        cases h
        obtain ⟨a, b⟩ := readAll_inv r (n + 1) w2 hr
        refine ⟨?_, fun w hw => ?_⟩
        · rw [List.map_cons, a, readLn_inv he]
          rfl
        · rcases List.mem_cons.mp hw with rfl | hw
          · exact readLn_flatW he
          · exact b w hw
      · cases h
/-- what is due holds no lists, and nothing deep -/
theorem flatWs {ws : List PyData} (h : ∀ w ∈ ws, FlatW w) : PyData.hasDictAll ws = false ∧ PyData.depthAll ws ≤ 1 ∧ deepD.deepDs ws = ws := by
  induction ws with
  | nil => exact ⟨rfl, Nat.zero_le _, rfl⟩
  | cons w r ih =>
    obtain ⟨a, b, c⟩ := ih fun x hx => h x (List.mem_cons_of_mem _ hx)
    obtain ⟨es, rfl, fl⟩ := h w (List.mem_cons_self ..)
    have hf : FlatW (.tuple es) := ⟨es, rfl, fl⟩
    have hn := flat_nodict fl
    have hd := flat_depth fl
    refine ⟨?_, ?_, ?_⟩
    · show (PyData.hasDictAll es || PyData.hasDictAll r) = false
      rw [hn, a]; rfl
    · show max (PyData.depthAll es + 1) (PyData.depthAll r) ≤ 1
      omega
    · show deepD (.tuple es) :: deepD.deepDs r = _
      rw [c, hf.deep]
/-- the three kinds of what is due -/
theorem due_cases (ds : List PyData) : (∃ n e : Nat, dueD ds = .tuple [dS cLine, .int (n : Int), .int (e : Int)]) ∨ (∃ k : Int, dueD ds = .tuple [dS cWea, .int k]) ∨
    ∃ ws, dueD ds = .tuple [dS cRead, .tuple ws] ∧ ws.map (fun w => dS (lineW w)) = ds ∧ (∀ w ∈ ws, FlatW w) ∧ badW (.tuple ws) = none := by
  cases hr : readAll ds 0 with
  | inr p => exact .inl ⟨p.1, p.2, by simp only [dueD, hr, dueA]⟩
  | inl ws =>
    cases hb : badW (.tuple ws) with
    | some k => exact .inr (.inl ⟨k, by simp only [dueD, hr, dueA, hb]⟩)
    | none =>
      obtain ⟨a, b⟩ := readAll_inv ds 0 ws hr
      exact .inr (.inr ⟨ws, by simp only [dueD, hr, dueA, hb], a, b, hb⟩)
theorem due_flat (ds : List PyData) : deepD (dueD ds) = dueD ds ∧ (dueD ds).depth ≤ 3 ∧ (dueD ds).hasDict = false := by
  rcases due_cases ds with ⟨n, e, h⟩ | ⟨k, h⟩ | ⟨ws, h, _, fl, _⟩
  · rw [h]; exact ⟨rfl, by show max 0 (max 0 (max 0 0)) + 1 ≤ 3; decide, rfl⟩
  · rw [h]; exact ⟨rfl, by show max 0 (max 0 0) + 1 ≤ 3; decide, rfl⟩
  · obtain ⟨a, b, c⟩ := flatWs fl
    rw [h]
    refine ⟨?_, ?_, ?_⟩
    · show PyData.tuple [dS cRead, .tuple (deepD.deepDs ws)] = _
      rw [c]
    · show max 0 (max (PyData.depthAll ws + 1) 0) + 1 ≤ 3
      omega
    · show (false || (PyData.hasDictAll ws || false)) = false
      rw [a]; rfl
/-- a bound on the lines behind so many spoilings -/
def Lf : Nat → Nat
  | 0 => 100
  | n + 1 => 3 * Lf n + 200
theorem Dr.ext {K : PySem.W.Frag} {d : Dd} {Hk H A1 G1 : Hp} (dr : Dr K d Hk H) (x : Ext Hk H A1 G1) : Dr K d A1 G1 := by
  have n0 : Hk d.a = none := dr.2.1
  have hne : H d.a ≠ none := by
    obtain ⟨_, _, _, _, p, b, u, x', s, ha, _⟩ := dr
    rw [ha]; simp
  exact (dr.same x.gg).know x.aa x.ag (x.free n0 hne)
theorem Dr.all {K : PySem.W.Frag} {d : Dd} {Hk H A1 G1 : Hp} (dr : Dr K d Hk H) (x : Ext H H A1 G1) : Dr K d Hk G1 := dr.same x.gg
end K12
namespace K12
open PySem PySem.Spec PyProof.Rows L2 Fg
local macro_rules | `(tactic| walk_at "sq") => `(tactic| first
  | assumption
  | exact .inl (.inl (by assumption))
  | exact .inl (.inl upd_same))
local macro_rules | `(tactic| walk_at "st") => `(tactic| first
  | assumption
  | exact .inl (.inl (by assumption))
  | exact .inl (.inl upd_same))
local macro_rules | `(tactic| walk_at "o") => `(tactic| first
  | omega
  | assumption
  | (simp only [List.length_append, List.length_take, List.length_drop, List.length_cons, List.length_nil, List.length_singleton, List.length_map, List.length_range, Int.toNat_natCast] ; omega))
local macro_rules | `(tactic| walk_at "s") => `(tactic| first
  | (with_reducible refine i_seq ?_)
  | (with_reducible refine i_asg ?_)
  | ((with_reducible refine' i_var ?h1 ?_); (case h1 => rfl))
  | (with_reducible refine i_c ?_)
  | ((with_reducible refine' i_gname' ?h1 ?_); (case h1 => (simp only [List.set_cons_zero, List.set_cons_succ]; rfl)))
  | (with_reducible refine i_op ?_)
  | (with_reducible refine i_ifS ?_)
  | (with_reducible refine i_for ?_)
  | (with_reducible refine i_test ?_)
  | (with_reducible refine i_B ?_)
  | (with_reducible refine i_exbl ?_)
  | (with_reducible refine i_exint ?_)
  | (with_reducible refine i_cb ?_)
  | (with_reducible refine i_nil ?_)
  | (with_reducible refine i_cons ?_)
  | (with_reducible refine i_ret ?_)
  | (with_reducible refine i_sl ?_)
  | (with_reducible refine i_nopart ?_)
  | (with_reducible refine i_part ?_)
  | (with_reducible refine i_add_int ?_)
  | (with_reducible refine i_sub ?_)
  | (with_reducible refine i_lt ?_)
  | ((with_reducible refine' i_mod ?h1 ?_); (case h1 => walk_at "o"))
  | ((with_reducible refine' i_fdiv ?h1 ?_); (case h1 => (refine cdiv_small ?_ ?_ <;> walk_at "o")))
  | ((with_reducible refine' i_sl_to ?h1 ?h2 ?_); (case h1 => walk_at "o"); (case h2 => walk_at "o"))
  | ((with_reducible refine' i_sl_from ?h1 ?h2 ?_); (case h1 => walk_at "o"); (case h2 => walk_at "o"))
  | ((with_reducible refine' i_add_str ?h1 ?_); (case h1 => walk_at "o"))
  | ((with_reducible refine' i_mul_int ?h1 ?_); (case h1 => first | (refine mul_small ?_ ?_ <;> walk_at "o") | (refine mul_smallR ?_ ?_ <;> walk_at "o")))
  | (with_reducible refine i_le ?_)
  | (with_reducible refine i_gt ?_)
  | (with_reducible refine i_ge ?_)
  | (with_reducible refine i_eq_int ?_)
  | (with_reducible refine i_eq_str ?_)
  | (with_reducible refine i_ne_int ?_)
  | (with_reducible refine i_ne_str ?_)
  | (with_reducible refine i_eq_bl ?_)
  | (with_reducible refine i_ne_bl ?_)
  | (with_reducible refine i_in_sg ?_)
  | (with_reducible refine i_notIn_sg ?_)
  | (with_reducible refine i_call ?_)
  | (with_reducible refine i_callS ?_)
  | (with_reducible refine i_sp1 ?_)
  | (with_reducible refine i_sp2 ?_)
  | (with_reducible refine i_sp3 ?_)
  | (with_reducible refine i_sp4 ?_)
  | (with_reducible refine i_sp1' ?_)
  | (with_reducible refine i_sp2' ?_)
  | (with_reducible refine i_sp3' ?_)
  | ((with_reducible refine' i_ix_lst ?h1 ?h2 ?_); (case h1 => walk_at "sq"); (case h2 => first | exact atI_nat rfl | rfl))
  | ((with_reducible refine' i_ix_tup ?h1 ?h2 ?_); (case h1 => walk_at "st"); (case h2 => first | exact atI_nat rfl | rfl))
  | (with_reducible refine i_gsub ?_)
  | (with_reducible refine i_par ?_)
  | (with_reducible refine i_lstRg1 ?_)
  | (with_reducible refine i_app ?_)
  | (with_reducible refine i_par2 ?_)
  | ((with_reducible refine' i_aug ?h1 ?_); (case h1 => rfl))
  | (with_reducible refine i_ipI ?_)
  | ((with_reducible refine' i_gtup2 ?h1 ?_); (case h1 => walk_at "st"))
  | (with_reducible refine i_int_bl ?_)
  | (with_reducible refine i_raise ?_)
  | (with_reducible refine i_mkE ?_)
  | (with_reducible refine i_ex1 ?_)
  | (with_reducible refine i_and ?_)
  | (with_reducible refine i_or ?_)
  | (with_reducible refine i_not ?_)
  | (with_reducible refine i_tt ?_)
  | (with_reducible refine i_ff ?_)
  | (with_reducible refine i_nott ?_)
  | (with_reducible refine i_notf ?_)
  | (with_reducible refine i_andV ?_)
  | (with_reducible refine i_orV ?_)
  | (with_reducible refine i_notV ?_)
  | (with_reducible refine i_ifE ?_)
  | (with_reducible refine i_tup ?_)
  | (with_reducible refine i_lst ?_)
  | (with_reducible refine i_un ?_)
  | (with_reducible refine i_neg ?_)
  | (with_reducible refine i_chain ?_)
  | (with_reducible refine i_next ?_)
  | (with_reducible refine i_retN ?_)
  | (with_reducible refine i_drop ?_)
  | (with_reducible refine i_int_int ?_)
  | (with_reducible refine i_abs ?_)
  | (with_reducible refine i_m1c ?_)
  | (with_reducible refine i_is_non ?_)
  | (with_reducible refine i_is_int ?_)
  | (with_reducible refine i_is_bl ?_)
  | (with_reducible refine i_isn_bl ?_)
  | (with_reducible refine i_is_str ?_)
  | (with_reducible refine i_is_ref ?_)
  | (with_reducible refine i_isn_non ?_)
  | (with_reducible refine i_isn_int ?_)
  | (with_reducible refine i_isn_str ?_)
  | (with_reducible refine i_isn_ref ?_)
  | (with_reducible refine i_len_str ?h1 ?_; (case h1 => walk_at "o"))
  | (with_reducible refine i_callD ?_)
  | (with_reducible refine i_spD2 ?_)
  | (with_reducible refine i_spM1 ?_)
  | (with_reducible refine i_spM2 ?_)
  | (with_reducible refine i_spM3 ?_)
  | (with_reducible refine i_spM4 ?_)
  | (with_reducible refine i_spM3d ?_)
  | (with_reducible refine i_tfld ?_)
  | (with_reducible refine i_sfld ?_)
  | (with_reducible refine i_meth ?_)
  | (with_reducible refine i_make ?_)
  | (with_reducible refine i_spl ?_)
  | (with_reducible refine i_mkE2 ?_)
  | (with_reducible refine i_ex2 ?_)
  | (with_reducible refine i_dget ?_)
  | (with_reducible refine i_tru ?_)
  | (with_reducible refine i_dput ?_)
  | (with_reducible refine i_dnotin ?_)
  | (with_reducible refine i_din ?_)
  | (with_reducible refine i_isi_int_int ?_) | (with_reducible refine i_isi_int_bool ?_) | (with_reducible refine i_isi_int_str ?_) | (with_reducible refine i_isi_int_tuple ?_) | (with_reducible refine i_isi_int_list ?_)
  | (with_reducible refine i_isi_bl_int ?_) | (with_reducible refine i_isi_bl_bool ?_) | (with_reducible refine i_isi_bl_str ?_) | (with_reducible refine i_isi_bl_tuple ?_) | (with_reducible refine i_isi_bl_list ?_)
  | (with_reducible refine i_isi_str_int ?_) | (with_reducible refine i_isi_str_bool ?_) | (with_reducible refine i_isi_str_str ?_) | (with_reducible refine i_isi_str_tuple ?_) | (with_reducible refine i_isi_str_list ?_)
  | (with_reducible refine i_isi_non_int ?_) | (with_reducible refine i_isi_non_bool ?_) | (with_reducible refine i_isi_non_str ?_) | (with_reducible refine i_isi_non_tuple ?_) | (with_reducible refine i_isi_non_list ?_))
local macro_rules | `(tactic| walk_at "go") => `(tactic| (repeat' (walk_at "s")))
local macro_rules | `(tactic| walk_at "n") => `(tactic| simp only [wipe, List.map_cons, List.map_nil, List.set_cons_zero, List.set_cons_succ])
theorem strs_flat (ls : List (List Nat)) : PyData.hasDictAll (ls.map dS) = false ∧ PyData.depthAll (ls.map dS) = 0 ∧ deepD.deepDs (ls.map dS) = ls.map dS := by
  induction ls with
  | nil => exact ⟨rfl, rfl, rfl⟩
  | cons l r ih =>
    obtain ⟨a, b, c⟩ := ih
    refine ⟨a, ?_, ?_⟩
    · show max 0 (PyData.depthAll (r.map dS)) = 0
      rw [b]; rfl
    · show dS l :: deepD.deepDs (r.map dS) = _
      rw [c]; rfl
theorem i_dnew {σ : L2.St} {H : Hp} {Q : VK} (q : ∀ p, H p = none → Q (.ref p) (upd H p (.dK []))) : tDNewK σ H Q := q
theorem Lf_ok : ∀ i < 3, 100 ≤ Lf i ∧ Lf i ≤ 2000 := by decide
theorem five {n : Int} (h : Btw n 5) : n = 0 ∨ n = 1 ∨ n = 2 ∨ n = 3 ∨ n = 4 := by
  have := h.1
  have := h.2.1 (by decide)
  omega
/-- ("lines", a list): what it is, as a tuple -/
theorem pair_due {c : List Nat} {ds : List PyData} (nd : PyData.hasDictAll ds = false) (dp : PyData.depthAll ds ≤ 3) (de : deepD.deepDs ds = ds) :
    deepD (.tuple [dS c, .list ds]) = .tuple [dS c, .tuple ds] ∧ (PyData.tuple [dS c, .list ds]).depth < 7 ∧ (PyData.tuple [dS c, .list ds]).hasDict = false := by
  refine ⟨?_, ?_, ?_⟩
  · show PyData.tuple [dS c, .tuple (deepD.deepDs ds)] = _
    rw [de]
  · show max 0 (max (PyData.depthAll ds + 1) 0) + 1 < 7
    omega
  · show (false || (PyData.hasDictAll ds || false)) = false
    rw [nd]; rfl
/-- what the law asks -/
def p_law (K : PySem.W.Frag) : P1 := fun x H Q _ => ∃ (a : Addr) (ns : List Int), x = .ref a ∧ SqL K H a (ns.map V.int) ∧ ns.length ≤ 63 ∧ ∀ H', Q (.bl true) H'
section
variable {P : Program} {w : World} {K : PySem.W.Frag} {mg : Str → Option Value} {base : Heap} {C_GlimError C_BadLine C_BadWeather C_Lines : Addr}
theorem ok_law_at {f : Addr} {fd : FuncData} (F : Fun K "law" "law" s_law f fd) (T : Txt K mg C_GlimError C_BadLine C_BadWeather C_Lines) : GOk P w K mg base CX0 12 f fd ["_law_script"] (sp1 (p_law K)) := by
  refine FnGOk.mk (k := 11) F sc_law len1 fun cdv A outer s H vs Q E hgu hr h => ?_
  obtain ⟨x, rfl, h⟩ := h
  refine ⟨_, (pss_cons (ps_set (i := 1) sc_law.nd rfl (Or.inr rfl) (pe_f (ok_L_draw (K := K) T) (hr.mono (by decide)) pass0 (pa_cons (pv 0) pa_nil))) (pss_cons (ps_setLc (i := 2) (own := [("_law_turn", 5)]) (g := gName 5) (tt := tYes) (by rfl) sc_law.nd rfl rfl (sw_true rfl rfl rfl (by decide +kernel)) (pi_range1 rfl T.b_range (pa_cons (pe_f (ok_L_pick (K := K) T) (hr.mono (by decide)) pass0 (pa_cons (pv 1) (pa_cons pe_int pa_nil))) pa_nil)) (blkOk_by (own := [("_law_turn", 5)]) (N := ["_law_script", "_law_draw_here", "_law_weathers", "_law_lines", "_law_texts", "_law_turn", "_law_due_here", "_law_passed", "_law_things", "_law_place", "_law_number", "_law_told", "_law_odd_here", "_law_weather_here", "_law_line_here", "_law_thing"]) (sc := (defScope s_law)) (by decide +kernel)) (fun _ _ _ _ _ => (pg_name (i := 5) sc_law.nd rfl (Or.inl rfl))) (fun _ _ _ _ _ => pts_nil) (fun _ _ _ _ _ => (pe_f (ok_L_weather (K := K) T) (hr.mono (by decide)) pass0 (pa_cons (pv 1) pa_nil)))) (pss_cons (ps_setLc (i := 3) (own := [("_law_weather_here", 13)]) (g := gName 13) (tt := tYes) (by rfl) sc_law.nd rfl rfl (sw_true rfl rfl rfl (by decide +kernel)) (piAny K (pv 2)) (blkOk_by (own := [("_law_weather_here", 13)]) (N := ["_law_script", "_law_draw_here", "_law_weathers", "_law_lines", "_law_texts", "_law_turn", "_law_due_here", "_law_passed", "_law_things", "_law_place", "_law_number", "_law_told", "_law_odd_here", "_law_weather_here", "_law_line_here", "_law_thing"]) (sc := (defScope s_law)) (by decide +kernel)) (fun _ _ _ _ _ => (pg_name (i := 13) sc_law.nd rfl (Or.inl rfl))) (fun _ _ _ _ _ => pts_nil) (fun _ _ _ _ _ => (pe_f (ok_L_line (K := K) T) (hr.mono (by decide)) pass0 (pa_cons (pv 13) pa_nil)))) (pss_cons (ps_if (pt_not (pt_val (pe_g (ok_L_there_and_back (K := K) T) hgu (hr.mono (by decide)) pass0 (pa_cons (pv 1) (pa_cons (pv 2) (pa_cons (pv 3) pa_nil)))))) (pss_one (ps_ret pe_bl)) pss_nil) (pss_cons (ps_setLc (i := 4) (own := [("_law_line_here", 14)]) (g := gName 14) (tt := tYes) (by rfl) sc_law.nd rfl rfl (sw_true rfl rfl rfl (by decide +kernel)) (piAny K (pv 3)) (blkOk_by (own := [("_law_line_here", 14)]) (N := ["_law_script", "_law_draw_here", "_law_weathers", "_law_lines", "_law_texts", "_law_turn", "_law_due_here", "_law_passed", "_law_things", "_law_place", "_law_number", "_law_told", "_law_odd_here", "_law_weather_here", "_law_line_here", "_law_thing"]) (sc := (defScope s_law)) (by decide +kernel)) (fun _ _ _ _ _ => (pg_name (i := 14) sc_law.nd rfl (Or.inl rfl))) (fun _ _ _ _ _ => pts_nil) (fun _ _ _ _ _ => (pv 14))) (pss_cons (ps_for PassesOwn.never rfl (pi_range1 rfl T.b_range (pa_cons (pe_op (opAdd K) pe_int (pe_f (ok_L_pick (K := K) T) (hr.mono (by decide)) pass0 (pa_cons (pv 1) (pa_cons pe_int pa_nil)))) pa_nil)) (pg_name (i := 5) sc_law.nd rfl (Or.inl rfl)) (pss_one (ps_set (i := 4) sc_law.nd rfl (Or.inl rfl) (pe_f (ok_L_spoilt (K := K) T) (hr.mono (by decide)) pass0 (pa_cons (pv 1) (pa_cons (pv 4) pa_nil)))))) (pss_cons (ps_set (i := 6) sc_law.nd rfl (Or.inl rfl) (pe_f (ok_L_due (K := K) T) (hr.mono (by decide)) pass0 (pa_cons (pv 4) pa_nil))) (pss_cons (ps_set (i := 7) sc_law.nd rfl (Or.inl rfl) (pv 4)) (Evl.pss_cut (ps_if (pt_cmpR (opEq K hr.units) (pe_f (ok_L_pick (K := K) T) (hr.mono (by decide)) pass0 (pa_cons (pv 1) (pa_cons pe_int pa_nil))) pe_int (nomark _)) (pss_one (ps_set (i := 7) sc_law.nd rfl (Or.inl rfl) (pe_callTy (cTup K) (by rfl) T.b_tuple (by decide +kernel) (pa_cons (pv 4) pa_nil)))) pss_nil) (pss_cons (ps_if (pt_not (pt_val (pe_f (ok_L_exact (K := K) T) (hr.mono (by decide)) pass0 (pa_cons (pe_f (ok_L_read (K := K) T) (hr.mono (by decide)) pass0 (pa_cons (pv 7) pa_nil)) (pa_cons (pv 6) pa_nil))))) (pss_one (ps_ret pe_bl)) pss_nil) (Evl.pss_cut (ps_if (pw_and (pt_cmpR (opEq K hr.units) (pe_ix (ixK K) (pv 6) pe_int (fun _ _ => rfl)) (pe_S [114, 101, 97, 100]) (nomark _)) (pw_and1 (pt_not (pt_val (pe_f (ok_L_exact (K := K) T) (hr.mono (by decide)) pass0 (pa_cons (pe_f (ok_L_written (K := K) T) (hr.mono (by decide)) pass0 (pa_cons (pe_ix (ixK K) (pv 6) pe_int (fun _ _ => rfl)) pa_nil)) (pa_cons (pe_tup (pa_cons (pe_S [108, 105, 110, 101, 115]) (pa_cons (pv 4) pa_nil))) pa_nil))))))).pt (pss_one (ps_ret pe_bl)) pss_nil) (pss_cons (ps_setLc (i := 8) (own := [("_law_weather_here", 13)]) (g := gName 13) (tt := tYes) (by rfl) sc_law.nd rfl rfl (sw_true rfl rfl rfl (by decide +kernel)) (piAny K (pv 2)) (blkOk_by (own := [("_law_weather_here", 13)]) (N := ["_law_script", "_law_draw_here", "_law_weathers", "_law_lines", "_law_texts", "_law_turn", "_law_due_here", "_law_passed", "_law_things", "_law_place", "_law_number", "_law_told", "_law_odd_here", "_law_weather_here", "_law_line_here", "_law_thing"]) (sc := (defScope s_law)) (by decide +kernel)) (fun _ _ _ _ _ => (pg_name (i := 13) sc_law.nd rfl (Or.inl rfl))) (fun _ _ _ _ _ => pts_nil) (fun _ _ _ _ _ => (pv 13))) (pss_cons (ps_for PassesOwn.never rfl (pi_range1 rfl T.b_range (pa_cons (pe_op (opAdd K) pe_int (pe_f (ok_L_pick (K := K) T) (hr.mono (by decide)) pass0 (pa_cons (pv 1) (pa_cons pe_int pa_nil)))) pa_nil)) (pg_name (i := 5) sc_law.nd rfl (Or.inl rfl)) (pss_cons (ps_set (i := 9) sc_law.nd rfl (Or.inl rfl) (pe_f (ok_L_pick (K := K) T) (hr.mono (by decide)) pass0 (pa_cons (pv 1) (pa_cons (pe_op (opAdd K) (pe_callB (cLen K) (by rfl) T.b_len (by decide +kernel) (pa_cons (pv 8) pa_nil)) pe_int) pa_nil)))) (pss_one (ps_set (i := 8) sc_law.nd rfl (Or.inl rfl) (pe_op (opAdd K) (pe_op (opAdd K) (pe_slice (slK K) (pv 8) po_none (po_some (pv 9))) (pe_lst (pa_cons (pe_f (ok_L_odd (K := K) T) (hr.mono (by decide)) pass0 (pa_cons (pv 1) (pa_cons (pe_f (ok_L_weather (K := K) T) (hr.mono (by decide)) pass0 (pa_cons (pv 1) pa_nil)) pa_nil))) pa_nil))) (pe_slice (slK K) (pv 8) (po_some (pe_op (opAdd K) (pv 9) (pe_f (ok_L_pick (K := K) T) (hr.mono (by decide)) pass0 (pa_cons (pv 1) (pa_cons pe_int pa_nil))))) po_none)))))) (pss_cons (ps_set (i := 10) sc_law.nd rfl (Or.inl rfl) (pe_f (ok_L_bad (K := K) T) (hr.mono (by decide)) pass0 (pa_cons (pv 8) pa_nil))) (pss_cons (ps_set (i := 11) sc_law.nd rfl (Or.inl rfl) (pe_f (ok_L_written (K := K) T) (hr.mono (by decide)) pass0 (pa_cons (pe_f (ok_L_kinds (K := K) T) (hr.mono (by decide)) pass0 (pa_cons (pv 1) (pa_cons (pv 8) pa_nil))) pa_nil))) (Evl.pss_cut (ps_if (pw_and (pt_cmpR op_isP (pv 10) pe_non (nomark _)) (pw_and1 (pt_not (pt_val (pe_f (ok_L_exact (K := K) T) (hr.mono (by decide)) pass0 (pa_cons (pv 11) (pa_cons (pe_tup (pa_cons (pe_S [108, 105, 110, 101, 115]) (pa_cons (pe_lc (own := [("_law_thing", 15)]) (g := gName 15) (tt := tYes) (by rfl) sc_law.nd (piAny K (pv 8)) (blkOk_by (own := [("_law_thing", 15)]) (N := ["_law_script", "_law_draw_here", "_law_weathers", "_law_lines", "_law_texts", "_law_turn", "_law_due_here", "_law_passed", "_law_things", "_law_place", "_law_number", "_law_told", "_law_odd_here", "_law_weather_here", "_law_line_here", "_law_thing"]) (sc := (defScope s_law)) (by decide +kernel)) (fun _ _ _ _ _ => (pg_name (i := 15) sc_law.nd rfl (Or.inl rfl))) (fun _ _ _ _ _ => pts_nil) (fun _ _ _ _ _ => (pe_f (ok_L_line (K := K) T) (hr.mono (by decide)) pass0 (pa_cons (pv 15) pa_nil)))) pa_nil))) pa_nil))))))).pt (pss_one (ps_ret pe_bl)) pss_nil) (Evl.pss_cut (ps_if (pw_and (pt_cmpR op_isNotP (pv 10) pe_non (nomark _)) (pw_and1 (pt_not (pt_val (pe_f (ok_L_exact (K := K) T) (hr.mono (by decide)) pass0 (pa_cons (pv 11) (pa_cons (pe_tup (pa_cons (pe_S [119, 101, 97, 116, 104, 101, 114]) (pa_cons (pv 10) pa_nil))) pa_nil))))))).pt (pss_one (ps_ret pe_bl)) pss_nil) (pss_cons (ps_set (i := 12) sc_law.nd rfl (Or.inl rfl) (pe_ix (ixK K) (pe_lst (pa_cons pe_non (pa_cons pe_int (pa_cons (pe_S []) (pa_cons (pe_S [103, 108, 111, 119]) (pa_cons pe_dnewK pa_nil)))))) (pe_f (ok_L_pick (K := K) T) (hr.mono (by decide)) pass0 (pa_cons (pv 1) (pa_cons pe_int pa_nil))) (fun _ _ => rfl))) (pss_cons (ps_if (pw_or (pt_not (pt_val (pe_f (ok_L_exact (K := K) T) (hr.mono (by decide)) pass0 (pa_cons (pe_f (ok_L_read (K := K) T) (hr.mono (by decide)) pass0 (pa_cons (pv 12) pa_nil)) (pa_cons (pe_tup (pa_cons (pe_S [108, 105, 110, 101]) (pa_cons pe_int (pa_cons pe_int pa_nil)))) pa_nil))))) (pw_or1 (pt_not (pt_val (pe_f (ok_L_exact (K := K) T) (hr.mono (by decide)) pass0 (pa_cons (pe_f (ok_L_written (K := K) T) (hr.mono (by decide)) pass0 (pa_cons (pv 12) pa_nil)) (pa_cons (pe_tup (pa_cons (pe_S [119, 101, 97, 116, 104, 101, 114]) (pa_cons (pe_un un_neg pe_int) pa_nil))) pa_nil))))))).pt (pss_one (ps_ret pe_bl)) pss_nil) (pss_one (ps_ret (pe_g (ok_L_there_and_back (K := K) T) hgu (hr.mono (by decide)) pass0 (pa_cons (pv 1) (pa_cons (pv 2) (pa_cons (pv 3) pa_nil))))))))))))))))))))))))), ?_⟩
  show (_ : TS) { nx := fun _ H' => Q .non H', rt := Q } [some x, none, none, none, none, none, none, none, none, none, none, none, none, none, none, none] H
  obtain ⟨a, ns, rfl, hS, hl, q⟩ := h
  walk_at "go"
  refine ⟨a, ns, rfl, hS, by omega, fun H0 d H1 s0 dr => ?_⟩
  walk_at "go"
  refine i_lcR ?_
  walk_at "go"
  refine ⟨H0, d, 7, rfl, rfl, dr, by decide, fun n H2 dr2 bn => ?_⟩
  have n0 := bn.1
  have n7 := bn.2.1 (by decide)
  refine i_lcRg (by omega) (by omega) (fun _ => rfl) fun wl nwl => ?_
  have kwl := dr2.free nwl
  refine ⟨fun i G => ∃ Hk acc wss, Same H0 Hk ∧ Hk wl = none ∧ Dr K d (upd Hk wl (.lst acc)) G ∧ AtAll Hk acc (tups wss) ∧ (∀ es ∈ wss, GoodW es) ∧ wss.length = i, ⟨H0, [], [], Same.refl _, kwl, dr2.new nwl, .nil, fun _ h => absurd h (by simp), rfl⟩, ?_, ?_⟩
  · rintro i G hi ⟨Hk, acc, wss, s1, n1, d1, al, gd, wi⟩
    have cells := s1.seq dr.cells
    have al' := al.len
    walk_at "n"
    walk_at "go"
    refine ⟨_, d, rfl, d1, fun t us es G2 nt d2 gw aw => ?_⟩
    have ntw : t ≠ wl := fun z => by rw [z, upd_same] at nt; cases nt
    have ntk : Hk t = none := by rw [upd_ne ntw] at nt; exact nt
    have hacc := d2.old ((upd_ne ntw.symm).trans upd_same)
    have d2' : Dr K d (upd (upd Hk t (.tup us)) wl (.lst acc)) G2 := by rw [upd_comm ntw]; exact d2
    have nw2 : (upd Hk t (.tup us)) wl = none := (upd_ne ntw.symm).trans n1
    refine ⟨acc, hacc, by rw [al', List.length_map, wi, sizeLine_eq]; omega, upd Hk t (.tup us), acc ++ [.ref t], wss ++ [es], s1.trans (same_upd ntk), nw2, d2'.put ((same_upd ntk).seq cells) nw2, ?_, ?_, by rw [List.length_append, wi]; rfl⟩
    · rw [tups, List.map_append]
      exact (al.same (same_upd ntk)).app (.one (At.mkTup upd_same (aw _) (Nat.le_trans gw.words.1 (by decide))))
    · intro x hx
      rcases List.mem_append.mp hx with h | h
      · exact gd x h
      · rw [List.mem_singleton.mp h]; exact gw
  rintro G ⟨Hk0, acc, wss, s1, n1, d1, al0, gd, wi⟩
  have h6 : wss.length ≤ 6 := by omega
  have hw : At (upd Hk0 wl (.lst acc)) (.ref wl) (.list (tups wss)) := At.mkLst upd_same (al0.same (same_upd n1)) (by rw [List.length_map]; omega)
  generalize upd Hk0 wl (.lst acc) = Hk at *
  clear al0 n1 s1 n0 n7 kwl nwl bn dr2 s0
  obtain ⟨_, xs, ew, hA, hxl, al⟩ := id hw.listed
  cases ew
  obtain ⟨tnd, tdp, tdd⟩ := tups_flat gd
  walk_at "go"
  refine Fg.c_lstD (A := Hk) d1.1 (fun R k => by walk_at "go"; exact k) (.inl (.inl (d1.old hA))) al hxl (fun d => dS (lineW d)) (fun _ => rfl) (fun y e A1 G1 hd hy y1 QV k => ?_) (fun ll A1 G1 l x1 e1 ea al1 len1 => ?_)
  · obtain ⟨es, he, rfl⟩ := List.mem_map.mp hd
    have gw := gd es he
    show (_ : TE) [some (.ref a), some (.ref d.a), some (.ref wl), none, none, none, none, none, none, none, none, none, none, some y, none, none] G1 QV
    walk_at "go"
    refine ⟨A1, es, y1.ag, hy, gw.words.1, gw.words.2, fun H' s => ?_⟩
    exact k A1 H' _ ⟨Same.refl _, y1.ag.trans s, s, fun b h1 h2 => absurd h1 h2⟩ (.str (lineD es) (by have := gw.short; omega))
  have d2 := d1.ext x1
  have hw1 := x1.old hw
  have hz1 : At A1 (.ref ll) (.list (lins wss)) := by
    have e : (tups wss).map (fun d => dS (lineW d)) = lins wss := by rw [List.map_map]; rfl
    rw [e] at al1
    exact At.mkLst ea al1 (by rw [List.length_map]; omega)
  clear al1 e1 ea len1 x1
  walk_at "go"
  refine ⟨A1, d, A1, wss, rfl, d2, Same.refl _, hw1, hz1, gd, h6, fun Hk2 G2 s2 d3 => ?_⟩
  have hw2 := hw1.same s2
  have hz2 := hz1.same s2
  clear d2 hw1 hz1 s2 d1 hw al
  walk_at "go"
  obtain ⟨_, zs, ez, hzA, hzl, zal⟩ := id hz2.listed
  cases ez
  refine Fg.c_lstD (A := Hk2) d3.1 (fun R k => by walk_at "go"; exact k) (.inl (.inl (d3.old hzA))) zal hzl (fun d => d) (fun _ => rfl) (fun y e A1 G1 hd hy y1 QV k => ?_) (fun tx A3 G3 l x3 e3 ea3 al3 len3 => ?_)
  · show (_ : TE) [some (.ref a), some (.ref d.a), some (.ref wl), some (.ref ll), none, none, none, none, none, none, none, none, none, none, some y, none] G1 QV
    walk_at "go"
    exact k A1 G1 y (Ext.refl y1.ag) hy
  rw [List.map_id'] at al3
  have d4 := d3.ext x3
  have hw3 := x3.old hw2
  have hz3 := x3.old hz2
  have ht3 : At A3 (.ref tx) (.list (lins wss)) := At.mkLst ea3 al3 (by rw [List.length_map]; omega)
  have ln3 : ∀ e ∈ lins wss, LnD e (Lf 0) := fun e he => by
    obtain ⟨es, h1, rfl⟩ := List.mem_map.mp he
    exact LnD.str (gd es h1).short
  clear al3 e3 ea3 len3 x3 d3 hw2 hz2 zal hzA
  walk_at "go"
  refine i_forR ?_
  walk_at "go"
  refine ⟨A3, d, 3, rfl, rfl, d4, by decide, fun n G4 d5 bn => ?_⟩
  have n0 := bn.1
  have n3 := bn.2.1 (by decide)
  walk_at "go"
  refine i_rngD (by omega) (by omega) (fun i σ G => ∃ v5 Hk tx ds, σ = [some (.ref a), some (.ref d.a), some (.ref wl), some (.ref ll), some (.ref tx), v5, none, none, none, none, none, none, none, none, none, none] ∧ Same A3 Hk ∧ Dr K d Hk G ∧ At Hk (.ref tx) (.list ds) ∧ (∀ e ∈ ds, LnD e (Lf i)) ∧ ds.length ≤ 6 + 5 * i)
    ⟨none, A3, tx, lins wss, rfl, Same.refl _, d5, ht3, ln3, by rw [List.length_map]; omega⟩ ?_ ?_
  · rintro i σ G hi ⟨v5, Hk, tx, ds, rfl, s1, d1, ht, ln, len⟩
    show (_ : TS) _ [some (.ref a), some (.ref d.a), some (.ref wl), some (.ref ll), some (.ref tx), some (.int (i : Int)), none, none, none, none, none, none, none, none, none, none] G
    have hi3 : i < 3 := by omega
    obtain ⟨L1, L2'⟩ := Lf_ok i hi3
    walk_at "go"
    refine ⟨Hk, d, Hk, Lf i, ds, rfl, d1, Same.refl _, ht, ln, L1, L2', by omega, fun Hk' G' A' v es x d2 hv ln' len' => ?_⟩
    obtain ⟨tx', _, rfl, _⟩ := hv.listed
    exact ⟨_, Hk', tx', es, rfl, s1.trans x.gg, d2, hv.same x.ag, ln', by omega⟩
  rintro σ G5 ⟨v5, Hk5, tx5, ds, rfl, s5, d6, ht, ln, len⟩
  have hw5 := hw3.same s5
  have hz5 := hz3.same s5
  clear hw3 hz3 s5 d5 d4 ht3 ln3
  walk_at "go"
  refine ⟨Hk5, ds, d6.1, ht, fun A6 G6 dv x6 hdv => ?_⟩
  have d7 := d6.ext x6
  have hw6 := x6.old hw5
  have hz6 := x6.old hz5
  have ht6 := x6.old ht
  obtain ⟨ddp, ddep, dnd⟩ := due_flat ds
  clear hw5 hz5 d6 x6 ht
  walk_at "go"
  refine i_cut (fun σ G => ∃ Hk pv e, σ = [some (.ref a), some (.ref d.a), some (.ref wl), some (.ref ll), some (.ref tx5), v5, some dv, some pv, none, none, none, none, none, none, none, none] ∧ Same A6 Hk ∧ Dr K d Hk G ∧ At Hk pv e ∧ (e = .list ds ∨ e = .tuple ds)) ?_ ?_
  · walk_at "go"
    refine ⟨A6, d, 2, rfl, rfl, d7, by decide, fun n G7 d8 b => ?_⟩
    walk_at "go"
    refine i_dec (fun e0 => ?_) (fun e0 => ?_)
    · walk_at "go"
      obtain ⟨_, ts, et, htA, htl, tal⟩ := id ht6.listed
      cases et
      refine i_tuple_lst (.inl (.inl (d8.old htA))) fun t nt => ?_
      walk_at "go"
      have kt := d8.free nt
      exact ⟨_, _, _, rfl, same_upd kt, d8.new nt, At.mkTup upd_same (tal.same (same_upd kt)) (by omega), .inr rfl⟩
    · exact ⟨_, _, _, rfl, Same.refl _, d8, ht6, .inl rfl⟩
  rintro σ G7 ⟨Hk7, pv, e, rfl, s7, d8, hpv, he⟩
  have hw7 := hw6.same s7
  have hz7 := hz6.same s7
  have ht7 := ht6.same s7
  have hdv7 := hdv.same s7
  have re : readD e = dueD ds := by rcases he with rfl | rfl <;> rfl
  walk_at "go"
  refine ⟨Hk7, e, d8.1, hpv, fun A8 G8 v8 x8 hv8 => ?_⟩
  rw [re] at hv8
  have d9 := d8.ext x8
  have hw8 := x8.old hw7
  have hz8 := x8.old hz7
  have ht8 := x8.old ht7
  have hdv8 := x8.old hdv7
  clear hw6 hz6 ht6 hdv s7 hw7 hz7 ht7 hdv7 d7
  walk_at "go"
  refine ⟨dueD ds, by rw [ddp]; exact hv8.same d9.1, hdv8.same d9.1, by omega, dnd, fun G9 s9 => ?_⟩
  have d10 := d9.same s9
  clear d9 d8 x8 s9 hv8
  walk_at "go"
  refine i_cut (fun σ G => ∃ Hk, σ = [some (.ref a), some (.ref d.a), some (.ref wl), some (.ref ll), some (.ref tx5), v5, some dv, some pv, none, none, none, none, none, none, none, none] ∧ Same A8 Hk ∧ Dr K d Hk G) ?_ ?_
  · have stay : ∃ Hk, ([some (.ref a), some (.ref d.a), some (.ref wl), some (.ref ll), some (.ref tx5), v5, some dv, some pv, none, none, none, none, none, none, none, none] : L2.St) = [some (.ref a), some (.ref d.a), some (.ref wl), some (.ref ll), some (.ref tx5), v5, some dv, some pv, none, none, none, none, none, none, none, none] ∧ Same A8 Hk ∧ Dr K d Hk G9 := ⟨A8, rfl, Same.refl _, d10⟩
    walk_at "go"
    rcases due_cases ds with ⟨n, e, h⟩ | ⟨k, h⟩ | ⟨ws, h, hws, fl, hbw⟩
    · rw [h] at hdv8
      obtain ⟨r, ys, rfl, hr, _, ral⟩ := hdv8.tupled
      cases ral with
      | cons h1 _ =>
      obtain rfl := h1.strd
      refine i_ix_tup (v := S cLine) (.inl (.inl (d10.old hr))) (atI_int (by decide) rfl) ?_
      walk_at "go"
      exact stay
    · rw [h] at hdv8
      obtain ⟨r, ys, rfl, hr, _, ral⟩ := hdv8.tupled
      cases ral with
      | cons h1 _ =>
      obtain rfl := h1.strd
      refine i_ix_tup (v := S cWea) (.inl (.inl (d10.old hr))) (atI_int (by decide) rfl) ?_
      walk_at "go"
      exact stay
    · rw [h] at hdv8
      obtain ⟨r, ys, rfl, hr, _, ral⟩ := hdv8.tupled
      cases ral with
      | cons h1 r1 =>
      cases r1 with
      | cons h2 _ =>
      obtain rfl := h1.strd
      obtain ⟨wnd, wdp, wdd⟩ := flatWs fl
      refine i_ix_tup (v := S cRead) (.inl (.inl (d10.old hr))) (atI_int (by decide) rfl) ?_
      walk_at "go"
      refine i_dec (fun _ => ?_) (fun z => absurd rfl z)
      walk_at "go"
      refine i_ix_tup (z := 1) (.inl (.inl (d10.old hr))) (atI_int (by decide) rfl) ?_
      walk_at "go"
      refine ⟨A8, .tuple ws, d10.1, h2, by show PyData.depthAll ws + 1 < 6; omega, fun A9 G10 v9 x9 hv9 => ?_⟩
      have dw : deepD (.tuple ws) = .tuple ws := by
        show PyData.tuple (deepD.deepDs ws) = _
        rw [wdd]
      rw [writ_of dw hbw, hws] at hv9
      have d11 := d10.ext x9
      have ht9 := x9.old ht8
      walk_at "go"
      refine i_new (by show 2 ≤ 100000; omega) fun t nt => ?_
      have kt := d11.free nt
      have d12 := d11.new (o := .tup [S cLines, .ref tx5]) nt
      walk_at "go"
      have sf := strs_flat (ws.map lineW)
      rw [List.map_map] at sf
      have sf : PyData.hasDictAll ds = false ∧ PyData.depthAll ds = 0 ∧ deepD.deepDs ds = ds := by rw [← hws]; exact sf
      obtain ⟨p1, p2, p3⟩ := pair_due (c := cLines) sf.1 (by omega) sf.2.2
      refine ⟨.tuple [dS cLines, .list ds], ?_, At.same (At.mkTup upd_same (.cons (.str _ (by decide)) (.one (ht9.same (same_upd kt)))) (by show 2 ≤ 10000; decide)) d12.1, p2, p3, fun G11 s11 => ?_⟩
      · rw [p1]
        exact (hv9.same (same_upd kt)).same d12.1
      walk_at "go"
      exact ⟨_, rfl, x9.aa.trans (same_upd kt), d12.same s11⟩
  rintro σ G8 ⟨Hk8, rfl, s8, d11⟩
  have hw9 := hw8.same s8
  have hz9 := hz8.same s8
  clear hw8 hz8 ht8 hdv8 s8 d10 hpv hA
  obtain ⟨_, xs9, ew, hA9, hxl9, al9⟩ := id hw9.listed
  cases ew
  walk_at "go"
  refine Fg.c_lstD (A := Hk8) d11.1 (fun R k => by walk_at "go"; exact k) (.inl (.inl (d11.old hA9))) al9 hxl9 (fun d => d) (fun _ => rfl) (fun y e A1 G1 hd hy y1 QV k => ?_) (fun th A9 G9 l x9 e9 ea9 al10 len9 => ?_)
  · show (_ : TE) [some (.ref a), some (.ref d.a), some (.ref wl), some (.ref ll), some (.ref tx5), v5, some dv, some pv, none, none, none, none, none, some y, none, none] G1 QV
    walk_at "go"
    exact k A1 G1 y (Ext.refl y1.ag) hy
  rw [List.map_id'] at al10
  have d12 := d11.ext x9
  have hw10 := x9.old hw9
  have hz10 := x9.old hz9
  have ht10 : At A9 (.ref th) (.list (tups wss)) := At.mkLst ea9 al10 (by rw [List.length_map]; omega)
  clear al10 e9 ea9 len9 x9 d11 hw9 hz9 al9 hA9
  walk_at "go"
  refine i_forR ?_
  walk_at "go"
  refine ⟨A9, d, 2, rfl, rfl, d12, by decide, fun n2 G10 d13 bn2 => ?_⟩
  have m0 := bn2.1
  have m2 := bn2.2.1 (by decide)
  walk_at "go"
  refine i_rngD (by omega) (by omega) (fun i σ G => ∃ v5 v9 Hk th ds, σ = [some (.ref a), some (.ref d.a), some (.ref wl), some (.ref ll), some (.ref tx5), v5, some dv, some pv, some (.ref th), v9, none, none, none, none, none, none] ∧ Same A9 Hk ∧ Dr K d Hk G ∧ At Hk (.ref th) (.list ds) ∧ (∀ e ∈ ds, FlatW e) ∧ ds.length ≤ 6 + i)
    ⟨v5, none, A9, th, tups wss, rfl, Same.refl _, d13, ht10, fun e he => by obtain ⟨es, h1, rfl⟩ := List.mem_map.mp he; exact (gd es h1).fw, by rw [List.length_map]; omega⟩ ?_ ?_
  · rintro i σ G hi ⟨v5, v9, Hk, th, ds, rfl, s1, d1, ht, fw, len⟩
    show (_ : TS) _ [some (.ref a), some (.ref d.a), some (.ref wl), some (.ref ll), some (.ref tx5), some (.int (i : Int)), some dv, some pv, some (.ref th), v9, none, none, none, none, none, none] G
    obtain ⟨_, xs, ex, hxA, hxl, xal⟩ := id ht.listed
    cases ex
    have xl := xal.len
    walk_at "go"
    refine i_len_lst (.inl (.inl (d1.old hxA))) ?_
    walk_at "go"
    refine ⟨Hk, d, _, rfl, rfl, d1, by omega, fun pl G2 d2 bp => ?_⟩
    obtain ⟨p, rfl⟩ := Int.eq_ofNat_of_zero_le bp.1
    walk_at "go"
    refine i_slL (.inl (.inl (d2.old hxA))) fun l1 n1 => ?_
    rw [cutV_to]
    have k1 := d2.free n1
    have d3 := d2.new (o := .lst (xs.take p)) n1
    have e1 : (upd Hk l1 (.lst (xs.take p))) l1 = some (.lst (xs.take p)) := upd_same
    have ss1 : Same Hk (upd Hk l1 (.lst (xs.take p))) := same_upd k1
    generalize upd Hk l1 (.lst (xs.take p)) = K1 at *
    walk_at "go"
    refine ⟨_, d, rfl, d3, fun t us es G3 nt d4 gw aw => ?_⟩
    have st : Same K1 (upd K1 t (.tup us)) := same_upd nt
    have et : (upd K1 t (.tup us)) t = some (.tup us) := upd_same
    generalize upd K1 t (.tup us) = K2 at *
    walk_at "go"
    refine ⟨K2, d, t, us, es, rfl, rfl, d4, et, by rw [(aw K2).len]; exact gw.words.1, ⟨aw, gw.flat⟩, fun K3 G4 r ys es' s3 d5 hr sc l7 => ?_⟩
    walk_at "go"
    refine i_new (by show 1 ≤ 100000; omega) fun l2 n2 => ?_
    have e3 := d5.old (s3 _ _ (st _ _ e1))
    refine i_catL ((upd_ne (ne_of_none e3 n2)).trans e3) upd_same (by rw [List.length_take]; show _ + 1 ≤ 100000; omega) fun l3 n3 => ?_
    have d6 := (d5.same (same_upd (o := .lst [.ref r]) n2)).new (o := .lst (xs.take p ++ [.ref r])) n3
    have k3 := (d5.same (same_upd (o := .lst [.ref r]) n2)).free n3
    have s03 : Same Hk (upd K3 l3 (.lst (xs.take p ++ [.ref r]))) := ((ss1.trans st).trans s3).trans (same_upd k3)
    have e6 : (upd K3 l3 (.lst (xs.take p ++ [.ref r]))) l3 = some (.lst (xs.take p ++ [.ref r])) := upd_same
    have hrr : At K3 (.ref r) (.tuple es') := At.mkTup hr (sc.1 K3) (by rw [← (sc.1 K3).len]; omega)
    have hrr := hrr.same (same_upd (o := .lst (xs.take p ++ [.ref r])) k3)
    generalize upd K3 l3 (.lst (xs.take p ++ [.ref r])) = K4 at *
    walk_at "go"
    refine ⟨K4, d, 2, rfl, rfl, d6, by decide, fun nn G5 d7 bb => ?_⟩
    obtain ⟨m, rfl⟩ := Int.eq_ofNat_of_zero_le bb.1
    walk_at "go"
    have epm : (p : Int) + (m : Int) = ((p + m : Nat) : Int) := by omega
    refine i_slL (.inl (.inl (d7.old (s03 _ _ hxA)))) fun l4 n4 => ?_
    rw [epm, cutV_fr]
    have d8 := d7.same (same_upd (o := .lst (xs.drop (p + m))) n4)
    have e7 := d7.old e6
    refine i_catL ((upd_ne (ne_of_none e7 n4)).trans e7) upd_same (by rw [List.length_append, List.length_take, List.length_drop]; show _ + 1 + _ ≤ 100000; omega) fun l5 n5 => ?_
    have k5 := d8.free n5
    have xal4 := xal.same s03
    walk_at "go"
    refine ⟨_, _, _, l5, _, rfl, (s1.trans s03).trans (same_upd k5), d8.new n5, At.mkLst upd_same (AtAll.same (((xal4.take p).app (.one hrr)).app (xal4.drop (p + m))) (same_upd k5)) ?_, ?_, ?_⟩
    · rw [List.length_append, List.length_append, List.length_take, List.length_drop]; show _ + 1 + _ ≤ _; omega
    · intro e he
      rcases List.mem_append.mp he with he | he
      · rcases List.mem_append.mp he with he | he
        · exact fw e (List.mem_of_mem_take he)
        · rw [List.mem_singleton.mp he]; exact ⟨es', rfl, sc.2⟩
      · exact fw e (List.mem_of_mem_drop he)
    · rw [List.length_append, List.length_append, List.length_take, List.length_drop]; show _ + 1 + _ ≤ _; omega
  rintro σ G11 ⟨v5, v9, Hk9, th9, es9, rfl, s9, d14, ht9, fw9, len9⟩
  have hw11 := hw10.same s9
  have hz11 := hz10.same s9
  clear hw10 hz10 d12 d13 ht10 s9
  obtain ⟨nd9, dp9, dd9⟩ := flatWs fw9
  walk_at "go"
  refine ⟨es9, ht9.same d14.1, fw9, fun G12 s12 => ?_⟩
  have d15 := d14.same s12
  rw [badL_W]
  clear d14 s12
  walk_at "go"
  refine ⟨Hk9, d, Hk9, es9, rfl, d15, Same.refl _, ht9, fw9, fun Hk10 G13 A10 kv ke kes x10 d16 hkv hke kin => ?_⟩
  obtain ⟨kd, knd, kdp⟩ := kin
  have de : deepD ke = .tuple es9 := by
    rcases hke with rfl | rfl
    · show PyData.tuple (deepD.deepDs kes) = _
      rw [deepDs_map, kd]
    · show PyData.tuple (deepD.deepDs kes) = _
      rw [deepDs_map, kd]
  have kdep : ke.depth < 6 := by
    rcases hke with rfl | rfl
    · show PyData.depthAll kes + 1 < 6; omega
    · show PyData.depthAll kes + 1 < 6; omega
  walk_at "go"
  refine ⟨Hk10, ke, d16.1, hkv.same x10.ag, kdep, fun A11 G14 tv x11 htv => ?_⟩
  have d17 := d16.ext x11
  have s17 := x10.gg.trans x11.aa
  have hw12 := hw11.same s17
  have hz12 := hz11.same s17
  have ht12 := ht9.same s17
  have wr : writD ke = (match badW (.tuple es9) with
    | some k => .tuple [dS cWea, .int k]
    | none => .tuple [dS cLines, .tuple (es9.map fun w => dS (lineW w))]) := by
    simp only [writD, de]
    try (cases badW (.tuple es9) <;> rfl)
  rw [wr] at htv
  clear wr d15 d16 x10 x11 hkv hw11 hz11 ht9 s17
  have nin : ∀ {G : Hp} {k : Int}, eqP K (.ref 0) (.ref 0) G (fun _ _ => True) ∨ True := fun {G k} => .inr trivial
  walk_at "go"
  refine i_cut (fun σ G => ∃ Hk, σ = [some (.ref a), some (.ref d.a), some (.ref wl), some (.ref ll), some (.ref tx5), v5, some dv, some pv, some (.ref th9), v9, some (optV (badW (.tuple es9))), some tv, none, none, none, none] ∧ Same A11 Hk ∧ Dr K d Hk G) ?_ ?_
  · have stay : ∃ Hk, ([some (.ref a), some (.ref d.a), some (.ref wl), some (.ref ll), some (.ref tx5), v5, some dv, some pv, some (.ref th9), v9, some (optV (badW (.tuple es9))), some tv, none, none, none, none] : L2.St) = [some (.ref a), some (.ref d.a), some (.ref wl), some (.ref ll), some (.ref tx5), v5, some dv, some pv, some (.ref th9), v9, some (optV (badW (.tuple es9))), some tv, none, none, none, none] ∧ Same A11 Hk ∧ Dr K d Hk G14 := ⟨A11, rfl, Same.refl _, d17⟩
    cases eb : badW (.tuple es9) with
    | some k =>
      rw [eb] at stay
      unfold optV
      walk_at "go"
      exact stay
    | none =>
      rw [eb] at htv
      have htv : At A11 tv (.tuple [dS cLines, .tuple (es9.map fun w => dS (lineW w))]) := htv
      have allW : ∀ e ∈ es9, isW (deepD e) = true := by
        refine badAt_all ?_
        rw [← badL_W] at eb
        unfold badL at eb
        split at eb
        · cases eb
        · cases hb : badAt es9 with
          | none => rfl
          | some k => rw [hb] at eb; cases eb
      obtain ⟨_, ys, ey, hyA, hyl, yal⟩ := id ht12.listed
      cases ey
      unfold optV
      walk_at "go"
      refine Fg.c_lstD (A := A11) d17.1 (fun R k => by walk_at "go"; exact k) (.inl (.inl (d17.old hyA))) yal hyl (fun d => dS (lineW d)) (fun _ => rfl) (fun y e A1 G1 hd hy y1 QV k => ?_) (fun nl A12 G15 l x12 e12 ea12 al12 len12 => ?_)
      · obtain ⟨es, rfl, fl⟩ := fw9 e hd
        have hwd := allW _ hd
        have hfw : FlatW (.tuple es) := ⟨es, rfl, fl⟩
        rw [hfw.deep] at hwd
        obtain ⟨es', e', _, h3, h4⟩ := isW_words hwd
        cases e'
        show (_ : TE) [some (.ref a), some (.ref d.a), some (.ref wl), some (.ref ll), some (.ref tx5), v5, some dv, some pv, some (.ref th9), v9, some .non, some tv, none, none, none, some y] G1 QV
        walk_at "go"
        refine ⟨A1, es, y1.ag, hy, h3, h4, fun H' s => ?_⟩
        refine k A1 H' _ ⟨Same.refl _, y1.ag.trans s, s, fun b h1 h2 => absurd h1 h2⟩ (.str (lineD es) ?_)
        have b1 := joinL_bound [32] (es.map txD)
        have b2 := tx_sum es h4
        have b3 : (es.map txD).length * ([32] : List Nat).length = es.length := by rw [List.length_map]; show _ * 1 = _; omega
        show (TL.joinL [32] (es.map txD)).length ≤ _
        omega
      have d18 := d17.ext x12
      have hl12 : At A12 (.ref nl) (.list (es9.map fun w => dS (lineW w))) := At.mkLst ea12 al12 (by rw [List.length_map]; omega)
      walk_at "go"
      refine i_new (by show 2 ≤ 100000; omega) fun t nt => ?_
      have kt := d18.free nt
      have d19 := d18.new (o := .tup [S cLines, .ref nl]) nt
      walk_at "go"
      have sf := strs_flat (es9.map lineW)
      rw [List.map_map] at sf
      obtain ⟨p1, p2, p3⟩ := pair_due (c := cLines) (ds := es9.map fun w => dS (lineW w)) sf.1 (by have := sf.2.1; show PyData.depthAll (es9.map (dS ∘ lineW)) ≤ 3; omega) sf.2.2
      refine ⟨.tuple [dS cLines, .list (es9.map fun w => dS (lineW w))], ?_, At.same (At.mkTup upd_same (.cons (.str _ (by decide)) (.one (hl12.same (same_upd kt)))) (by show 2 ≤ 10000; decide)) d19.1, p2, p3, fun G11 s11 => ?_⟩
      · rw [p1]
        exact ((x12.old htv).same (same_upd kt)).same d19.1
      walk_at "go"
      exact ⟨_, rfl, x12.aa.trans (same_upd kt), d19.same s11⟩
  rintro σ G15 ⟨Hk11, rfl, s11, d18⟩
  have hw13 := hw12.same s11
  have hz13 := hz12.same s11
  have htv13 := htv.same s11
  clear hw12 hz12 htv ht12 d17 s11 nin
  refine i_cut (fun σ G => ∃ Hk, σ = [some (.ref a), some (.ref d.a), some (.ref wl), some (.ref ll), some (.ref tx5), v5, some dv, some pv, some (.ref th9), v9, some (optV (badW (.tuple es9))), some tv, none, none, none, none] ∧ Same Hk11 Hk ∧ Dr K d Hk G) ?_ ?_
  · have stay : ∃ Hk, ([some (.ref a), some (.ref d.a), some (.ref wl), some (.ref ll), some (.ref tx5), v5, some dv, some pv, some (.ref th9), v9, some (optV (badW (.tuple es9))), some tv, none, none, none, none] : L2.St) = [some (.ref a), some (.ref d.a), some (.ref wl), some (.ref ll), some (.ref tx5), v5, some dv, some pv, some (.ref th9), v9, some (optV (badW (.tuple es9))), some tv, none, none, none, none] ∧ Same Hk11 Hk ∧ Dr K d Hk G15 := ⟨Hk11, rfl, Same.refl _, d18⟩
    cases eb : badW (.tuple es9) with
    | none =>
      rw [eb] at stay
      unfold optV
      walk_at "go"
      exact stay
    | some k =>
      rw [eb] at htv13
      have htv : At Hk11 tv (.tuple [dS cWea, .int k]) := htv13
      unfold optV
      walk_at "go"
      refine i_new (by show 2 ≤ 100000; omega) fun t nt => ?_
      have kt := d18.free nt
      have d19 := d18.new (o := .tup [S cWea, .int k]) nt
      walk_at "go"
      refine ⟨.tuple [dS cWea, .int k], (htv.same (same_upd kt)).same d19.1, At.same (At.mkTup upd_same (.cons (.str _ (by decide)) (.one (.int k))) (by show 2 ≤ 10000; decide)) d19.1, by show max 0 (max 0 0) + 1 < 7; decide, rfl, fun G11 s11 => ?_⟩
      walk_at "go"
      exact ⟨_, rfl, same_upd kt, d19.same s11⟩
  rintro σ G16 ⟨Hk12, rfl, s12, d19⟩
  have hw14 := hw13.same s12
  have hz14 := hz13.same s12
  clear hw13 hz13 htv13 d18 s12
  walk_at "go"
  refine i_dnew fun dk ndk => ?_
  have kdk := d19.free ndk
  have d20 := d19.new (o := .dK []) ndk
  have hw15 := hw14.same (same_upd (o := .dK []) kdk)
  have hz15 := hz14.same (same_upd (o := .dK []) kdk)
  have hdk : (upd Hk12 dk (.dK [])) dk = some (.dK []) := upd_same
  generalize upd Hk12 dk (.dK []) = Hk13 at *
  clear hw14 hz14 d19
  walk_at "go"
  refine i_new (by show 5 ≤ 100000; omega) fun lo nlo => ?_
  have klo := d20.free nlo
  have d21 := d20.new (o := .lst [.non, .int 7, S [], S [103, 108, 111, 119], .ref dk]) nlo
  have hw16 := hw15.same (same_upd (o := .lst [.non, .int 7, S [], S [103, 108, 111, 119], .ref dk]) klo)
  have hz16 := hz15.same (same_upd (o := .lst [.non, .int 7, S [], S [103, 108, 111, 119], .ref dk]) klo)
  have hdk2 := same_upd (o := .lst [.non, .int 7, S [], S [103, 108, 111, 119], .ref dk]) klo _ _ hdk
  have hlo : (upd Hk13 lo (.lst [.non, .int 7, S [], S [103, 108, 111, 119], .ref dk])) lo = some (.lst [.non, .int 7, S [], S [103, 108, 111, 119], .ref dk]) := upd_same
  generalize upd Hk13 lo (.lst [.non, .int 7, S [], S [103, 108, 111, 119], .ref dk]) = Hk14 at *
  clear hw15 hz15 d20
  walk_at "go"
  refine ⟨Hk14, d, 5, rfl, rfl, d21, by decide, fun n5 G17 d22 b5 => ?_⟩
  have key : ∃ ov od, atI [.non, .int 7, S [], S [103, 108, 111, 119], .ref dk] n5 = some ov ∧ At Hk14 ov od ∧ od.depth < 6 ∧ readD od = .tuple [dS cLine, .int 0, .int 0] ∧ writD od = .tuple [dS cWea, .int (-1)] := by
    rcases five b5 with rfl | rfl | rfl | rfl | rfl
    · exact ⟨_, _, rfl, .non, by decide, rfl, rfl⟩
    · exact ⟨_, _, rfl, .int 7, by decide, rfl, rfl⟩
    · exact ⟨_, _, rfl, .str [] (by decide), by decide, rfl, rfl⟩
    · exact ⟨_, _, rfl, .str _ (by decide), by decide, rfl, rfl⟩
    · exact ⟨_, _, rfl, .dct hdk2, by decide, rfl, rfl⟩
  obtain ⟨ov, od, hov, aov, odp, rdo, wro⟩ := key
  refine i_ix_lst (.inl (.inl (d22.old hlo))) hov ?_
  walk_at "go"
  refine ⟨Hk14, od, d22.1, aov, fun A15 G18 rv x15 hrv => ?_⟩
  rw [rdo] at hrv
  have d23 := d22.ext x15
  walk_at "go"
  refine i_new (by show 3 ≤ 100000; omega) fun t nt => ?_
  have kt := d23.free nt
  have d24 := d23.new (o := .tup [S cLine, .int 0, .int 0]) nt
  walk_at "go"
  refine ⟨.tuple [dS cLine, .int 0, .int 0], (hrv.same (same_upd kt)).same d24.1, At.same (At.mkTup upd_same (.cons (.str _ (by decide)) (.cons (.int 0) (.one (.int 0)))) (by show 3 ≤ 10000; decide)) d24.1, by show max 0 (max 0 (max 0 0)) + 1 < 7; decide, rfl, fun G19 s19 => ?_⟩
  have d25 := d24.same s19
  have s25 := x15.aa.trans (same_upd (o := .tup [S cLine, .int 0, .int 0]) kt)
  have hw17 := hw16.same s25
  have hz17 := hz16.same s25
  have aov2 := aov.same s25
  clear d24 d23 x15 s19 hw16 hz16 hrv s25
  generalize upd A15 t (.tup [S cLine, .int 0, .int 0]) = Hk15 at *
  walk_at "go"
  refine ⟨Hk15, od, d25.1, aov2, odp, fun A16 G20 wv x16 hwv => ?_⟩
  rw [wro] at hwv
  have d26 := d25.ext x16
  walk_at "go"
  refine i_new (by show 2 ≤ 100000; omega) fun t2 nt2 => ?_
  have kt2 := d26.free nt2
  have d27 := d26.new (o := .tup [S cWea, .int (-1)]) nt2
  walk_at "go"
  refine ⟨.tuple [dS cWea, .int (-1)], (hwv.same (same_upd kt2)).same d27.1, At.same (At.mkTup upd_same (.cons (.str _ (by decide)) (.one (.int (-1)))) (by show 2 ≤ 10000; decide)) d27.1, by show max 0 (max 0 0) + 1 < 7; decide, rfl, fun G21 s21 => ?_⟩
  have d28 := d27.same s21
  have s28 := x16.aa.trans (same_upd (o := .tup [S cWea, .int (-1)]) kt2)
  have hw18 := hw17.same s28
  have hz18 := hz17.same s28
  walk_at "go"
  refine ⟨_, d, _, wss, rfl, d28, Same.refl _, hw18, hz18, gd, h6, fun Hk' H' _ _ => ?_⟩
  exact q _
end
end K12
namespace K12
open PySem PySem.Spec PyProof.Rows L2 Fg
theorem all_mk {l : PySem.W.OpenLaw} {w : World} {K : PySem.W.Frag} {h : Heap} {mg : Str → Option Value} {fa C_GlimError C_BadLine C_BadWeather C_Lines f1 f2 f3 f4 f5 f6 f7 f8 f9 f10 f11 f12 f13 f14 f15 f16 f17 f18 f19 f20 f21 f22 f23 f24 f25 f26 f27 f28 f29 f30 f31 f32 f33 f34 f35 f36 f37 f38 f39 f40 f41 f42 f43 f44 f45 f46 f47 f48 : Addr} (X : K.In h) (G : h.Ns mainGlobals mg) (hfa : mg "law" = some (.ref fa))
    {od1 an1 od2 an2 od3 an3 od4 an4 od5 an5 od6 an6 od7 an7 od8 an8 od9 an9 od10 an10 od11 an11 od12 an12 od13 an13 od14 an14 od15 an15 od16 an16 od17 an17 od18 an18 od19 an19 od20 an20 od21 an21 od22 an22 od23 an23 od24 an24 od25 an25 od26 an26 od27 an27 od28 an28 od29 an29 od30 an30 od31 an31 od32 an32 od33 an33 od34 an34 od35 an35 od36 an36 od37 an37 od38 an38 od39 an39 od40 an40 od41 an41 od42 an42 od43 an43 od44 an44 od45 an45 od46 an46 od47 an47 od48 an48 : Option Addr} {sl1 sl2 sl3 sl4 sl5 sl6 sl7 sl8 sl9 sl10 sl11 sl12 sl13 sl14 sl15 sl16 sl17 sl18 sl19 sl20 sl21 sl22 sl23 sl24 sl25 sl26 sl27 sl28 sl29 sl30 sl31 sl32 sl33 sl34 sl35 sl36 sl37 sl38 sl39 sl40 sl41 sl42 sl43 sl44 sl45 sl46 sl47 sl48 : Array (Option Value)} {oc1 kV1 dc1 pm1 cd1 ct1 oc2 kV2 dc2 pm2 cd2 ct2 oc3 kV3 dc3 pm3 cd3 ct3 oc4 kV4 dc4 pm4 cd4 ct4 oc5 kV5 dc5 pm5 cd5 ct5 oc6 kV6 dc6 pm6 cd6 ct6 oc7 kV7 dc7 pm7 cd7 ct7 oc8 kV8 dc8 pm8 cd8 ct8 oc9 kV9 dc9 pm9 cd9 ct9 oc10 kV10 dc10 pm10 cd10 ct10 oc11 kV11 dc11 pm11 cd11 ct11 oc12 kV12 dc12 pm12 cd12 ct12 oc13 kV13 dc13 pm13 cd13 ct13 oc14 kV14 dc14 pm14 cd14 ct14 oc15 kV15 dc15 pm15 cd15 ct15 oc16 kV16 dc16 pm16 cd16 ct16 oc17 kV17 dc17 pm17 cd17 ct17 oc18 kV18 dc18 pm18 cd18 ct18 oc19 kV19 dc19 pm19 cd19 ct19 oc20 kV20 dc20 pm20 cd20 ct20 oc21 kV21 dc21 pm21 cd21 ct21 oc22 kV22 dc22 pm22 cd22 ct22 oc23 kV23 dc23 pm23 cd23 ct23 oc24 kV24 dc24 pm24 cd24 ct24 oc25 kV25 dc25 pm25 cd25 ct25 oc26 kV26 dc26 pm26 cd26 ct26 oc27 kV27 dc27 pm27 cd27 ct27 oc28 kV28 dc28 pm28 cd28 ct28 oc29 kV29 dc29 pm29 cd29 ct29 oc30 kV30 dc30 pm30 cd30 ct30 oc31 kV31 dc31 pm31 cd31 ct31 oc32 kV32 dc32 pm32 cd32 ct32 oc33 kV33 dc33 pm33 cd33 ct33 oc34 kV34 dc34 pm34 cd34 ct34 oc35 kV35 dc35 pm35 cd35 ct35 oc36 kV36 dc36 pm36 cd36 ct36 oc37 kV37 dc37 pm37 cd37 ct37 oc38 kV38 dc38 pm38 cd38 ct38 oc39 kV39 dc39 pm39 cd39 ct39 oc40 kV40 dc40 pm40 cd40 ct40 oc41 kV41 dc41 pm41 cd41 ct41 oc42 kV42 dc42 pm42 cd42 ct42 oc43 kV43 dc43 pm43 cd43 ct43 oc44 kV44 dc44 pm44 cd44 ct44 oc45 kV45 dc45 pm45 cd45 ct45 oc46 kV46 dc46 pm46 cd46 ct46 oc47 kV47 dc47 pm47 cd47 ct47 oc48 kV48 dc48 pm48 cd48 ct48 : Value}
    {nm_BadWeather q_BadWeather : Str} {N_BadWeather : Addr} {bs_BadWeather bm_BadWeather : List Value} {sn_BadWeather : List Str} {sub_BadWeather : List Value} {ab_BadWeather : Bool} {col_BadWeather : Option Bool} {dd_BadWeather : Option Addr} {m0_BadWeather m1_BadWeather m2_BadWeather m3_BadWeather m5_BadWeather : Option Value}
    {nm_BadLine q_BadLine : Str} {N_BadLine : Addr} {bs_BadLine bm_BadLine : List Value} {sn_BadLine : List Str} {sub_BadLine : List Value} {ab_BadLine : Bool} {col_BadLine : Option Bool} {dd_BadLine : Option Addr} {m0_BadLine m1_BadLine m2_BadLine m3_BadLine m5_BadLine : Option Value}
    {t_SIGNS t_MOST_LEVELS t_DIGITS t_MOST_WEATHERS : Tok}
    {D13 : Addr} {oD13 : Value} {dD13 : Option Addr} {nD13 : Nat} {sD13 : Array (Option Value)}
    {D6 : Addr} {oD6 : Value} {dD6 : Option Addr} {nD6 : Nat} {sD6 : Array (Option Value)} {td6_0 : Tok}
    {D2 : Addr} {oD2 : Value} {dD2 : Option Addr} {nD2 : Nat} {sD2 : Array (Option Value)} {td2_0 : Tok}
    (a1 : PySem.W.nsIn K mainGlobals "is_integer" = some (some (.ref f1)))
    (l1 : K.lookup f1 = some ⟨oc1, od1, .func (PySem.W.fnOf "is_integer" "is_integer" (defArgs s_is_integer) (defBody s_is_integer) (defScope s_is_integer) .none kV1 dc1 pm1 an1 cd1 ct1), sl1⟩)
    (c1 : PySem.W.codeIn K cd1 "is_integer" = true)
    (k1 : PySem.W.keepIn K (.ref f1) = true)
    (a2 : PySem.W.nsIn K mainGlobals "deep" = some (some (.ref f2)))
    (l2 : K.lookup f2 = some ⟨oc2, od2, .func (PySem.W.fnOf "deep" "deep" (defArgs s_deep) (defBody s_deep) (defScope s_deep) (.ref D2) kV2 dc2 pm2 an2 cd2 ct2), sl2⟩)
    (c2 : PySem.W.codeIn K cd2 "deep" = true)
    (k2 : PySem.W.keepIn K (.ref f2) = true)
    (e2 : K.lookup D2 = some ⟨oD2, dD2, .seq #[.int 0 td2_0] nD2, sD2⟩)
    (a3 : PySem.W.nsIn K mainGlobals "is_sign" = some (some (.ref f3)))
    (l3 : K.lookup f3 = some ⟨oc3, od3, .func (PySem.W.fnOf "is_sign" "is_sign" (defArgs s_is_sign) (defBody s_is_sign) (defScope s_is_sign) .none kV3 dc3 pm3 an3 cd3 ct3), sl3⟩)
    (c3 : PySem.W.codeIn K cd3 "is_sign" = true)
    (k3 : PySem.W.keepIn K (.ref f3) = true)
    (a4 : PySem.W.nsIn K mainGlobals "is_lit" = some (some (.ref f4)))
    (l4 : K.lookup f4 = some ⟨oc4, od4, .func (PySem.W.fnOf "is_lit" "is_lit" (defArgs s_is_lit) (defBody s_is_lit) (defScope s_is_lit) .none kV4 dc4 pm4 an4 cd4 ct4), sl4⟩)
    (c4 : PySem.W.codeIn K cd4 "is_lit" = true)
    (k4 : PySem.W.keepIn K (.ref f4) = true)
    (a5 : PySem.W.nsIn K mainGlobals "is_number" = some (some (.ref f5)))
    (l5 : K.lookup f5 = some ⟨oc5, od5, .func (PySem.W.fnOf "is_number" "is_number" (defArgs s_is_number) (defBody s_is_number) (defScope s_is_number) .none kV5 dc5 pm5 an5 cd5 ct5), sl5⟩)
    (c5 : PySem.W.codeIn K cd5 "is_number" = true)
    (k5 : PySem.W.keepIn K (.ref f5) = true)
    (a6 : PySem.W.findIn K (.ref C_Lines) "__init__" = some (some (.ref f6)))
    (i6 : PySem.W.isFn K (.ref f6) = true)
    (l6 : K.lookup f6 = some ⟨oc6, od6, .func (PySem.W.fnOf "__init__" "Lines.__init__" (defArgs s_Lines___init__) (defBody s_Lines___init__) (defScope s_Lines___init__) (.ref D6) kV6 dc6 pm6 an6 cd6 ct6), sl6⟩)
    (c6 : PySem.W.codeIn K cd6 "Lines.__init__" = true)
    (k6 : PySem.W.keepIn K (.ref f6) = true)
    (e6 : K.lookup D6 = some ⟨oD6, dD6, .seq #[.int 0 td6_0] nD6, sD6⟩)
    (a7 : PySem.W.findIn K (.ref C_Lines) "is_over" = some (some (.ref f7)))
    (i7 : PySem.W.isFn K (.ref f7) = true)
    (l7 : K.lookup f7 = some ⟨oc7, od7, .func (PySem.W.fnOf "is_over" "Lines.is_over" (defArgs s_Lines_is_over) (defBody s_Lines_is_over) (defScope s_Lines_is_over) .none kV7 dc7 pm7 an7 cd7 ct7), sl7⟩)
    (c7 : PySem.W.codeIn K cd7 "Lines.is_over" = true)
    (k7 : PySem.W.keepIn K (.ref f7) = true)
    (a8 : PySem.W.findIn K (.ref C_Lines) "words" = some (some (.ref f8)))
    (i8 : PySem.W.isFn K (.ref f8) = true)
    (l8 : K.lookup f8 = some ⟨oc8, od8, .func (PySem.W.fnOf "words" "Lines.words" (defArgs s_Lines_words) (defBody s_Lines_words) (defScope s_Lines_words) .none kV8 dc8 pm8 an8 cd8 ct8), sl8⟩)
    (c8 : PySem.W.codeIn K cd8 "Lines.words" = true)
    (k8 : PySem.W.keepIn K (.ref f8) = true)
    (a9 : PySem.W.findIn K (.ref C_Lines) "first_word" = some (some (.ref f9)))
    (i9 : PySem.W.isFn K (.ref f9) = true)
    (l9 : K.lookup f9 = some ⟨oc9, od9, .func (PySem.W.fnOf "first_word" "Lines.first_word" (defArgs s_Lines_first_word) (defBody s_Lines_first_word) (defScope s_Lines_first_word) .none kV9 dc9 pm9 an9 cd9 ct9), sl9⟩)
    (c9 : PySem.W.codeIn K cd9 "Lines.first_word" = true)
    (k9 : PySem.W.keepIn K (.ref f9) = true)
    (a10 : PySem.W.findIn K (.ref C_Lines) "fail_at" = some (some (.ref f10)))
    (i10 : PySem.W.isFn K (.ref f10) = true)
    (l10 : K.lookup f10 = some ⟨oc10, od10, .func (PySem.W.fnOf "fail_at" "Lines.fail_at" (defArgs s_Lines_fail_at) (defBody s_Lines_fail_at) (defScope s_Lines_fail_at) .none kV10 dc10 pm10 an10 cd10 ct10), sl10⟩)
    (c10 : PySem.W.codeIn K cd10 "Lines.fail_at" = true)
    (k10 : PySem.W.keepIn K (.ref f10) = true)
    (a11 : PySem.W.findIn K (.ref C_Lines) "word_at" = some (some (.ref f11)))
    (i11 : PySem.W.isFn K (.ref f11) = true)
    (l11 : K.lookup f11 = some ⟨oc11, od11, .func (PySem.W.fnOf "word_at" "Lines.word_at" (defArgs s_Lines_word_at) (defBody s_Lines_word_at) (defScope s_Lines_word_at) .none kV11 dc11 pm11 an11 cd11 ct11), sl11⟩)
    (c11 : PySem.W.codeIn K cd11 "Lines.word_at" = true)
    (k11 : PySem.W.keepIn K (.ref f11) = true)
    (a12 : PySem.W.findIn K (.ref C_Lines) "number_at" = some (some (.ref f12)))
    (i12 : PySem.W.isFn K (.ref f12) = true)
    (l12 : K.lookup f12 = some ⟨oc12, od12, .func (PySem.W.fnOf "number_at" "Lines.number_at" (defArgs s_Lines_number_at) (defBody s_Lines_number_at) (defScope s_Lines_number_at) .none kV12 dc12 pm12 an12 cd12 ct12), sl12⟩)
    (c12 : PySem.W.codeIn K cd12 "Lines.number_at" = true)
    (k12 : PySem.W.keepIn K (.ref f12) = true)
    (a13 : PySem.W.findIn K (.ref C_Lines) "sign_at" = some (some (.ref f13)))
    (i13 : PySem.W.isFn K (.ref f13) = true)
    (l13 : K.lookup f13 = some ⟨oc13, od13, .func (PySem.W.fnOf "sign_at" "Lines.sign_at" (defArgs s_Lines_sign_at) (defBody s_Lines_sign_at) (defScope s_Lines_sign_at) (.ref D13) kV13 dc13 pm13 an13 cd13 ct13), sl13⟩)
    (c13 : PySem.W.codeIn K cd13 "Lines.sign_at" = true)
    (k13 : PySem.W.keepIn K (.ref f13) = true)
    (e13 : K.lookup D13 = some ⟨oD13, dD13, .seq #[.bool false] nD13, sD13⟩)
    (a14 : PySem.W.findIn K (.ref C_Lines) "close_at" = some (some (.ref f14)))
    (i14 : PySem.W.isFn K (.ref f14) = true)
    (l14 : K.lookup f14 = some ⟨oc14, od14, .func (PySem.W.fnOf "close_at" "Lines.close_at" (defArgs s_Lines_close_at) (defBody s_Lines_close_at) (defScope s_Lines_close_at) .none kV14 dc14 pm14 an14 cd14 ct14), sl14⟩)
    (c14 : PySem.W.codeIn K cd14 "Lines.close_at" = true)
    (k14 : PySem.W.keepIn K (.ref f14) = true)
    (a15 : PySem.W.nsIn K mainGlobals "is_lose" = some (some (.ref f15)))
    (l15 : K.lookup f15 = some ⟨oc15, od15, .func (PySem.W.fnOf "is_lose" "is_lose" (defArgs s_is_lose) (defBody s_is_lose) (defScope s_is_lose) .none kV15 dc15 pm15 an15 cd15 ct15), sl15⟩)
    (c15 : PySem.W.codeIn K cd15 "is_lose" = true)
    (k15 : PySem.W.keepIn K (.ref f15) = true)
    (a16 : PySem.W.nsIn K mainGlobals "is_miss" = some (some (.ref f16)))
    (l16 : K.lookup f16 = some ⟨oc16, od16, .func (PySem.W.fnOf "is_miss" "is_miss" (defArgs s_is_miss) (defBody s_is_miss) (defScope s_is_miss) .none kV16 dc16 pm16 an16 cd16 ct16), sl16⟩)
    (c16 : PySem.W.codeIn K cd16 "is_miss" = true)
    (k16 : PySem.W.keepIn K (.ref f16) = true)
    (a17 : PySem.W.nsIn K mainGlobals "is_taking" = some (some (.ref f17)))
    (l17 : K.lookup f17 = some ⟨oc17, od17, .func (PySem.W.fnOf "is_taking" "is_taking" (defArgs s_is_taking) (defBody s_is_taking) (defScope s_is_taking) .none kV17 dc17 pm17 an17 cd17 ct17), sl17⟩)
    (c17 : PySem.W.codeIn K cd17 "is_taking" = true)
    (k17 : PySem.W.keepIn K (.ref f17) = true)
    (a18 : PySem.W.nsIn K mainGlobals "is_weather" = some (some (.ref f18)))
    (l18 : K.lookup f18 = some ⟨oc18, od18, .func (PySem.W.fnOf "is_weather" "is_weather" (defArgs s_is_weather) (defBody s_is_weather) (defScope s_is_weather) .none kV18 dc18 pm18 an18 cd18 ct18), sl18⟩)
    (c18 : PySem.W.codeIn K cd18 "is_weather" = true)
    (k18 : PySem.W.keepIn K (.ref f18) = true)
    (a19 : PySem.W.nsIn K mainGlobals "check_weathers" = some (some (.ref f19)))
    (l19 : K.lookup f19 = some ⟨oc19, od19, .func (PySem.W.fnOf "check_weathers" "check_weathers" (defArgs s_check_weathers) (defBody s_check_weathers) (defScope s_check_weathers) .none kV19 dc19 pm19 an19 cd19 ct19), sl19⟩)
    (c19 : PySem.W.codeIn K cd19 "check_weathers" = true)
    (k19 : PySem.W.keepIn K (.ref f19) = true)
    (a20 : PySem.W.nsIn K mainGlobals "weather_line" = some (some (.ref f20)))
    (l20 : K.lookup f20 = some ⟨oc20, od20, .func (PySem.W.fnOf "weather_line" "weather_line" (defArgs s_weather_line) (defBody s_weather_line) (defScope s_weather_line) .none kV20 dc20 pm20 an20 cd20 ct20), sl20⟩)
    (c20 : PySem.W.codeIn K cd20 "weather_line" = true)
    (k20 : PySem.W.keepIn K (.ref f20) = true)
    (a21 : PySem.W.nsIn K mainGlobals "write_weathers" = some (some (.ref f21)))
    (l21 : K.lookup f21 = some ⟨oc21, od21, .func (PySem.W.fnOf "write_weathers" "write_weathers" (defArgs s_write_weathers) (defBody s_write_weathers) (defScope s_write_weathers) .none kV21 dc21 pm21 an21 cd21 ct21), sl21⟩)
    (c21 : PySem.W.codeIn K cd21 "write_weathers" = true)
    (k21 : PySem.W.keepIn K (.ref f21) = true)
    (a22 : PySem.W.nsIn K mainGlobals "weather_at" = some (some (.ref f22)))
    (l22 : K.lookup f22 = some ⟨oc22, od22, .func (PySem.W.fnOf "weather_at" "weather_at" (defArgs s_weather_at) (defBody s_weather_at) (defScope s_weather_at) .none kV22 dc22 pm22 an22 cd22 ct22), sl22⟩)
    (c22 : PySem.W.codeIn K cd22 "weather_at" = true)
    (k22 : PySem.W.keepIn K (.ref f22) = true)
    (a23 : PySem.W.nsIn K mainGlobals "read_weathers" = some (some (.ref f23)))
    (l23 : K.lookup f23 = some ⟨oc23, od23, .func (PySem.W.fnOf "read_weathers" "read_weathers" (defArgs s_read_weathers) (defBody s_read_weathers) (defScope s_read_weathers) .none kV23 dc23 pm23 an23 cd23 ct23), sl23⟩)
    (c23 : PySem.W.codeIn K cd23 "read_weathers" = true)
    (k23 : PySem.W.keepIn K (.ref f23) = true)
    (a24 : PySem.W.nsIn K mainGlobals "_law_draw" = some (some (.ref f24)))
    (l24 : K.lookup f24 = some ⟨oc24, od24, .func (PySem.W.fnOf "_law_draw" "_law_draw" (defArgs s_L_draw) (defBody s_L_draw) (defScope s_L_draw) .none kV24 dc24 pm24 an24 cd24 ct24), sl24⟩)
    (c24 : PySem.W.codeIn K cd24 "_law_draw" = true)
    (k24 : PySem.W.keepIn K (.ref f24) = true)
    (a25 : PySem.W.nsIn K mainGlobals "_law_mix" = some (some (.ref f25)))
    (l25 : K.lookup f25 = some ⟨oc25, od25, .func (PySem.W.fnOf "_law_mix" "_law_mix" (defArgs s_L_mix) (defBody s_L_mix) (defScope s_L_mix) .none kV25 dc25 pm25 an25 cd25 ct25), sl25⟩)
    (c25 : PySem.W.codeIn K cd25 "_law_mix" = true)
    (k25 : PySem.W.keepIn K (.ref f25) = true)
    (a26 : PySem.W.nsIn K mainGlobals "_law_pick" = some (some (.ref f26)))
    (l26 : K.lookup f26 = some ⟨oc26, od26, .func (PySem.W.fnOf "_law_pick" "_law_pick" (defArgs s_L_pick) (defBody s_L_pick) (defScope s_L_pick) .none kV26 dc26 pm26 an26 cd26 ct26), sl26⟩)
    (c26 : PySem.W.codeIn K cd26 "_law_pick" = true)
    (k26 : PySem.W.keepIn K (.ref f26) = true)
    (a27 : PySem.W.nsIn K mainGlobals "_law_is_int" = some (some (.ref f27)))
    (l27 : K.lookup f27 = some ⟨oc27, od27, .func (PySem.W.fnOf "_law_is_int" "_law_is_int" (defArgs s_L_is_int) (defBody s_L_is_int) (defScope s_L_is_int) .none kV27 dc27 pm27 an27 cd27 ct27), sl27⟩)
    (c27 : PySem.W.codeIn K cd27 "_law_is_int" = true)
    (k27 : PySem.W.keepIn K (.ref f27) = true)
    (a28 : PySem.W.nsIn K mainGlobals "_law_exact" = some (some (.ref f28)))
    (l28 : K.lookup f28 = some ⟨oc28, od28, .func (PySem.W.fnOf "_law_exact" "_law_exact" (defArgs s_L_exact) (defBody s_L_exact) (defScope s_L_exact) .none kV28 dc28 pm28 an28 cd28 ct28), sl28⟩)
    (c28 : PySem.W.codeIn K cd28 "_law_exact" = true)
    (k28 : PySem.W.keepIn K (.ref f28) = true)
    (a29 : PySem.W.nsIn K mainGlobals "_law_weather" = some (some (.ref f29)))
    (l29 : K.lookup f29 = some ⟨oc29, od29, .func (PySem.W.fnOf "_law_weather" "_law_weather" (defArgs s_L_weather) (defBody s_L_weather) (defScope s_L_weather) .none kV29 dc29 pm29 an29 cd29 ct29), sl29⟩)
    (c29 : PySem.W.codeIn K cd29 "_law_weather" = true)
    (k29 : PySem.W.keepIn K (.ref f29) = true)
    (a30 : PySem.W.nsIn K mainGlobals "_law_line" = some (some (.ref f30)))
    (l30 : K.lookup f30 = some ⟨oc30, od30, .func (PySem.W.fnOf "_law_line" "_law_line" (defArgs s_L_line) (defBody s_L_line) (defScope s_L_line) .none kV30 dc30 pm30 an30 cd30 ct30), sl30⟩)
    (c30 : PySem.W.codeIn K cd30 "_law_line" = true)
    (k30 : PySem.W.keepIn K (.ref f30) = true)
    (a31 : PySem.W.nsIn K mainGlobals "_law_is_weather" = some (some (.ref f31)))
    (l31 : K.lookup f31 = some ⟨oc31, od31, .func (PySem.W.fnOf "_law_is_weather" "_law_is_weather" (defArgs s_L_is_weather) (defBody s_L_is_weather) (defScope s_L_is_weather) .none kV31 dc31 pm31 an31 cd31 ct31), sl31⟩)
    (c31 : PySem.W.codeIn K cd31 "_law_is_weather" = true)
    (k31 : PySem.W.keepIn K (.ref f31) = true)
    (a32 : PySem.W.nsIn K mainGlobals "_law_bad" = some (some (.ref f32)))
    (l32 : K.lookup f32 = some ⟨oc32, od32, .func (PySem.W.fnOf "_law_bad" "_law_bad" (defArgs s_L_bad) (defBody s_L_bad) (defScope s_L_bad) .none kV32 dc32 pm32 an32 cd32 ct32), sl32⟩)
    (c32 : PySem.W.codeIn K cd32 "_law_bad" = true)
    (k32 : PySem.W.keepIn K (.ref f32) = true)
    (a33 : PySem.W.nsIn K mainGlobals "_law_forms" = some (some (.ref f33)))
    (l33 : K.lookup f33 = some ⟨oc33, od33, .func (PySem.W.fnOf "_law_forms" "_law_forms" (defArgs s_L_forms) (defBody s_L_forms) (defScope s_L_forms) .none kV33 dc33 pm33 an33 cd33 ct33), sl33⟩)
    (c33 : PySem.W.codeIn K cd33 "_law_forms" = true)
    (k33 : PySem.W.keepIn K (.ref f33) = true)
    (a34 : PySem.W.nsIn K mainGlobals "_law_stands" = some (some (.ref f34)))
    (l34 : K.lookup f34 = some ⟨oc34, od34, .func (PySem.W.fnOf "_law_stands" "_law_stands" (defArgs s_L_stands) (defBody s_L_stands) (defScope s_L_stands) .none kV34 dc34 pm34 an34 cd34 ct34), sl34⟩)
    (c34 : PySem.W.codeIn K cd34 "_law_stands" = true)
    (k34 : PySem.W.keepIn K (.ref f34) = true)
    (a35 : PySem.W.nsIn K mainGlobals "_law_line_read" = some (some (.ref f35)))
    (l35 : K.lookup f35 = some ⟨oc35, od35, .func (PySem.W.fnOf "_law_line_read" "_law_line_read" (defArgs s_L_line_read) (defBody s_L_line_read) (defScope s_L_line_read) .none kV35 dc35 pm35 an35 cd35 ct35), sl35⟩)
    (c35 : PySem.W.codeIn K cd35 "_law_line_read" = true)
    (k35 : PySem.W.keepIn K (.ref f35) = true)
    (a36 : PySem.W.nsIn K mainGlobals "_law_due" = some (some (.ref f36)))
    (l36 : K.lookup f36 = some ⟨oc36, od36, .func (PySem.W.fnOf "_law_due" "_law_due" (defArgs s_L_due) (defBody s_L_due) (defScope s_L_due) .none kV36 dc36 pm36 an36 cd36 ct36), sl36⟩)
    (c36 : PySem.W.codeIn K cd36 "_law_due" = true)
    (k36 : PySem.W.keepIn K (.ref f36) = true)
    (a37 : PySem.W.nsIn K mainGlobals "_law_read" = some (some (.ref f37)))
    (l37 : K.lookup f37 = some ⟨oc37, od37, .func (PySem.W.fnOf "_law_read" "_law_read" (defArgs s_L_read) (defBody s_L_read) (defScope s_L_read) .none kV37 dc37 pm37 an37 cd37 ct37), sl37⟩)
    (c37 : PySem.W.codeIn K cd37 "_law_read" = true)
    (k37 : PySem.W.keepIn K (.ref f37) = true)
    (a38 : PySem.W.nsIn K mainGlobals "_law_written" = some (some (.ref f38)))
    (l38 : K.lookup f38 = some ⟨oc38, od38, .func (PySem.W.fnOf "_law_written" "_law_written" (defArgs s_L_written) (defBody s_L_written) (defScope s_L_written) .none kV38 dc38 pm38 an38 cd38 ct38), sl38⟩)
    (c38 : PySem.W.codeIn K cd38 "_law_written" = true)
    (k38 : PySem.W.keepIn K (.ref f38) = true)
    (a39 : PySem.W.nsIn K mainGlobals "_law_word" = some (some (.ref f39)))
    (l39 : K.lookup f39 = some ⟨oc39, od39, .func (PySem.W.fnOf "_law_word" "_law_word" (defArgs s_L_word) (defBody s_L_word) (defScope s_L_word) .none kV39 dc39 pm39 an39 cd39 ct39), sl39⟩)
    (c39 : PySem.W.codeIn K cd39 "_law_word" = true)
    (k39 : PySem.W.keepIn K (.ref f39) = true)
    (a40 : PySem.W.nsIn K mainGlobals "_law_spoilt_line" = some (some (.ref f40)))
    (l40 : K.lookup f40 = some ⟨oc40, od40, .func (PySem.W.fnOf "_law_spoilt_line" "_law_spoilt_line" (defArgs s_L_spoilt_line) (defBody s_L_spoilt_line) (defScope s_L_spoilt_line) .none kV40 dc40 pm40 an40 cd40 ct40), sl40⟩)
    (c40 : PySem.W.codeIn K cd40 "_law_spoilt_line" = true)
    (k40 : PySem.W.keepIn K (.ref f40) = true)
    (a41 : PySem.W.nsIn K mainGlobals "_law_near" = some (some (.ref f41)))
    (l41 : K.lookup f41 = some ⟨oc41, od41, .func (PySem.W.fnOf "_law_near" "_law_near" (defArgs s_L_near) (defBody s_L_near) (defScope s_L_near) .none kV41 dc41 pm41 an41 cd41 ct41), sl41⟩)
    (c41 : PySem.W.codeIn K cd41 "_law_near" = true)
    (k41 : PySem.W.keepIn K (.ref f41) = true)
    (a42 : PySem.W.nsIn K mainGlobals "_law_spoilt" = some (some (.ref f42)))
    (l42 : K.lookup f42 = some ⟨oc42, od42, .func (PySem.W.fnOf "_law_spoilt" "_law_spoilt" (defArgs s_L_spoilt) (defBody s_L_spoilt) (defScope s_L_spoilt) .none kV42 dc42 pm42 an42 cd42 ct42), sl42⟩)
    (c42 : PySem.W.codeIn K cd42 "_law_spoilt" = true)
    (k42 : PySem.W.keepIn K (.ref f42) = true)
    (a43 : PySem.W.nsIn K mainGlobals "_law_odd" = some (some (.ref f43)))
    (l43 : K.lookup f43 = some ⟨oc43, od43, .func (PySem.W.fnOf "_law_odd" "_law_odd" (defArgs s_L_odd) (defBody s_L_odd) (defScope s_L_odd) .none kV43 dc43 pm43 an43 cd43 ct43), sl43⟩)
    (c43 : PySem.W.codeIn K cd43 "_law_odd" = true)
    (k43 : PySem.W.keepIn K (.ref f43) = true)
    (a44 : PySem.W.nsIn K mainGlobals "_law_kinds" = some (some (.ref f44)))
    (l44 : K.lookup f44 = some ⟨oc44, od44, .func (PySem.W.fnOf "_law_kinds" "_law_kinds" (defArgs s_L_kinds) (defBody s_L_kinds) (defScope s_L_kinds) .none kV44 dc44 pm44 an44 cd44 ct44), sl44⟩)
    (c44 : PySem.W.codeIn K cd44 "_law_kinds" = true)
    (k44 : PySem.W.keepIn K (.ref f44) = true)
    (a45 : PySem.W.nsIn K mainGlobals "_law_there_and_back" = some (some (.ref f45)))
    (l45 : K.lookup f45 = some ⟨oc45, od45, .func (PySem.W.fnOf "_law_there_and_back" "_law_there_and_back" (defArgs s_L_there_and_back) (defBody s_L_there_and_back) (defScope s_L_there_and_back) .none kV45 dc45 pm45 an45 cd45 ct45), sl45⟩)
    (c45 : PySem.W.codeIn K cd45 "_law_there_and_back" = true)
    (k45 : PySem.W.keepIn K (.ref f45) = true)
    (a46 : PySem.W.nsIn K mainGlobals "law" = some (some (.ref f46)))
    (l46 : K.lookup f46 = some ⟨oc46, od46, .func (PySem.W.fnOf "law" "law" (defArgs s_law) (defBody s_law) (defScope s_law) .none kV46 dc46 pm46 an46 cd46 ct46), sl46⟩)
    (c46 : PySem.W.codeIn K cd46 "law" = true)
    (k46 : PySem.W.keepIn K (.ref f46) = true)
    (wpg_Lines : PySem.W.plainGet K C_Lines Str.empty = true)
    (whd_Lines : PySem.W.hasDictIn K C_Lines = true)
    (wpo_Lines : PySem.W.plainOver K C_Lines = true)
    (wsa_Lines : PySem.W.findIn K (.ref C_Lines) "__setattr__" = some (some (.builtin "object.__setattr__")))
    (wmk_Lines : PySem.W.makesIn K C_Lines = true)
    (wkc_Lines : PySem.W.keepIn K (.ref C_Lines) = true)
    (wna_Lines_texts : PySem.W.findIn K (.ref C_Lines) "texts" = some none)
    (wna_Lines_now : PySem.W.findIn K (.ref C_Lines) "now" = some none)
    (z_ValueError : PySem.W.nsIn K mainGlobals "ValueError" = some none)
    (z_abs : PySem.W.nsIn K mainGlobals "abs" = some none)
    (z_bool : PySem.W.nsIn K mainGlobals "bool" = some none)
    (z_enumerate : PySem.W.nsIn K mainGlobals "enumerate" = some none)
    (z_int : PySem.W.nsIn K mainGlobals "int" = some none)
    (z_isinstance : PySem.W.nsIn K mainGlobals "isinstance" = some none)
    (z_len : PySem.W.nsIn K mainGlobals "len" = some none)
    (z_list : PySem.W.nsIn K mainGlobals "list" = some none)
    (z_range : PySem.W.nsIn K mainGlobals "range" = some none)
    (z_repr : PySem.W.nsIn K mainGlobals "repr" = some none)
    (z_str : PySem.W.nsIn K mainGlobals "str" = some none)
    (z_sum : PySem.W.nsIn K mainGlobals "sum" = some none)
    (z_tuple : PySem.W.nsIn K mainGlobals "tuple" = some none)
    (v_SIGNS : PySem.W.nsIn K mainGlobals "SIGNS" = some (some (.str ".grw" t_SIGNS)))
    (v_MOST_LEVELS : PySem.W.nsIn K mainGlobals "MOST_LEVELS" = some (some (.int 70 t_MOST_LEVELS)))
    (v_DIGITS : PySem.W.nsIn K mainGlobals "DIGITS" = some (some (.str "0123456789" t_DIGITS)))
    (v_MOST_WEATHERS : PySem.W.nsIn K mainGlobals "MOST_WEATHERS" = some (some (.int 6 t_MOST_WEATHERS)))
    (g_GlimError : PySem.W.nsIn K mainGlobals "GlimError" = some (some (.ref C_GlimError)))
    (g_BadLine : PySem.W.nsIn K mainGlobals "BadLine" = some (some (.ref C_BadLine)))
    (g_BadWeather : PySem.W.nsIn K mainGlobals "BadWeather" = some (some (.ref C_BadWeather)))
    (g_Lines : PySem.W.nsIn K mainGlobals "Lines" = some (some (.ref C_Lines)))
    (xl_BadLine : K.lookup C_BadLine = some (excClassObj nm_BadLine q_BadLine C_BadLine N_BadLine bs_BadLine bm_BadLine true sn_BadLine sub_BadLine ab_BadLine col_BadLine dd_BadLine m0_BadLine m1_BadLine m2_BadLine m3_BadLine m5_BadLine "ValueError.__new__"))
    (xr_BadLine : PySem.HandSPX.refsVE bm_BadLine = true)
    (xsa_BadLine : PySem.W.findIn K (.ref C_BadLine) "__setattr__" = some (some (.builtin "object.__setattr__")))
    (xga_BadLine : PySem.W.findIn K (.ref C_BadLine) "__getattribute__" = some (some (.builtin "BaseException.__getattribute__")))
    (xgg_BadLine : PySem.W.findIn K (.ref C_BadLine) "__getattr__" = some none)
    (xnf_BadLine_line : PySem.W.findIn K (.ref C_BadLine) "line" = some none)
    (xnf_BadLine_word : PySem.W.findIn K (.ref C_BadLine) "word" = some none)
    (xi_BadLine : PySem.W.findIn K (.ref C_BadLine) "__init__" = some (some (.ref f47)))
    (xt_BadLine : PySem.W.typeIn K (.ref f47) = some (.type "function"))
    (xf_BadLine : K.lookup f47 = some ⟨oc47, od47, .func (PySem.W.fnOf "__init__" "BadLine.__init__" (defArgs s_BadLine) (defBody s_BadLine) (defScope s_BadLine) .none kV47 dc47 pm47 an47 cd47 ct47), sl47⟩)
    (xc_BadLine : PySem.W.codeIn K cd47 "BadLine.__init__" = true)
    (xkf_BadLine : PySem.W.keepIn K (.ref f47) = true)
    (xk_BadLine : PySem.W.keepIn K (.ref C_BadLine) = true)
    (xe_BadLine : PySem.W.subIn K (.ref C_BadLine) (.type "BaseException") = some true)
    (xty_BadLine : PySem.W.typeIn K (.ref C_BadLine) = some (.type "type"))
    (xhd_BadLine : PySem.W.hasDictIn K C_BadLine = true)
    (xis_BadLine : PySem.W.isClsIn K C_BadLine = true)
    (xca_BadLine : PySem.W.findIn K (.ref C_BadLine) "__class__" = some (some (.builtin "object.__class__")))
    (xm_BadLine : PySem.W.mroIn K C_BadLine (.type "object") = some true)
    (xl_BadWeather : K.lookup C_BadWeather = some (excClassObj nm_BadWeather q_BadWeather C_BadWeather N_BadWeather bs_BadWeather bm_BadWeather true sn_BadWeather sub_BadWeather ab_BadWeather col_BadWeather dd_BadWeather m0_BadWeather m1_BadWeather m2_BadWeather m3_BadWeather m5_BadWeather "ValueError.__new__"))
    (xr_BadWeather : PySem.HandSPX.refsVE bm_BadWeather = true)
    (xsa_BadWeather : PySem.W.findIn K (.ref C_BadWeather) "__setattr__" = some (some (.builtin "object.__setattr__")))
    (xga_BadWeather : PySem.W.findIn K (.ref C_BadWeather) "__getattribute__" = some (some (.builtin "BaseException.__getattribute__")))
    (xgg_BadWeather : PySem.W.findIn K (.ref C_BadWeather) "__getattr__" = some none)
    (xnf_BadWeather_number : PySem.W.findIn K (.ref C_BadWeather) "number" = some none)
    (xi_BadWeather : PySem.W.findIn K (.ref C_BadWeather) "__init__" = some (some (.ref f48)))
    (xt_BadWeather : PySem.W.typeIn K (.ref f48) = some (.type "function"))
    (xf_BadWeather : K.lookup f48 = some ⟨oc48, od48, .func (PySem.W.fnOf "__init__" "BadWeather.__init__" (defArgs s_BadWeather) (defBody s_BadWeather) (defScope s_BadWeather) .none kV48 dc48 pm48 an48 cd48 ct48), sl48⟩)
    (xc_BadWeather : PySem.W.codeIn K cd48 "BadWeather.__init__" = true)
    (xkf_BadWeather : PySem.W.keepIn K (.ref f48) = true)
    (xk_BadWeather : PySem.W.keepIn K (.ref C_BadWeather) = true)
    (xe_BadWeather : PySem.W.subIn K (.ref C_BadWeather) (.type "BaseException") = some true)
    (xty_BadWeather : PySem.W.typeIn K (.ref C_BadWeather) = some (.type "type"))
    (xhd_BadWeather : PySem.W.hasDictIn K C_BadWeather = true)
    (xis_BadWeather : PySem.W.isClsIn K C_BadWeather = true)
    (xca_BadWeather : PySem.W.findIn K (.ref C_BadWeather) "__class__" = some (some (.builtin "object.__class__")))
    (xm_BadWeather : PySem.W.mroIn K C_BadWeather (.type "object") = some true)
    (xsp : PySem.W.specialIn K (.builtin "object.__class__") "__get__" = some (some (.builtin "getset_descriptor.__get__")))
    (xtk : PySem.W.takesIn K (.builtin "object.__class__") = some true)
    (qi_BadLine : PySem.W.isClsIn K C_BadLine = true)
    (qt_BadLine : PySem.W.typeIn K (.ref C_BadLine) = some (.type "type"))
    (qs_BadLine : PySem.W.subIn K (.ref C_BadLine) (.ref C_BadLine) = some true)
    (qb_BadLine : PySem.W.subIn K (.ref C_BadLine) (.type "BaseException") = some true)
    (qi_BadWeather : PySem.W.isClsIn K C_BadWeather = true)
    (qt_BadWeather : PySem.W.typeIn K (.ref C_BadWeather) = some (.type "type"))
    (qs_BadWeather : PySem.W.subIn K (.ref C_BadWeather) (.ref C_BadWeather) = some true)
    (qb_BadWeather : PySem.W.subIn K (.ref C_BadWeather) (.type "BaseException") = some true)
    (qi_GlimError : PySem.W.isClsIn K C_GlimError = true)
    (qt_GlimError : PySem.W.typeIn K (.ref C_GlimError) = some (.type "type"))
    (qs_GlimError : PySem.W.subIn K (.ref C_GlimError) (.ref C_GlimError) = some true)
    (qb_GlimError : PySem.W.subIn K (.ref C_GlimError) (.type "BaseException") = some true)
    (y_BadLine_BadLine : PySem.W.subIn K (.ref C_BadLine) (.ref C_BadLine) = some true)
    (y_BadLine_BadWeather : PySem.W.subIn K (.ref C_BadLine) (.ref C_BadWeather) = some false)
    (y_BadLine_ValueError : PySem.W.subIn K (.ref C_BadLine) (.type "ValueError") = some true)
    (y_BadWeather_BadLine : PySem.W.subIn K (.ref C_BadWeather) (.ref C_BadLine) = some false)
    (y_BadWeather_BadWeather : PySem.W.subIn K (.ref C_BadWeather) (.ref C_BadWeather) = some true)
    (y_BadWeather_ValueError : PySem.W.subIn K (.ref C_BadWeather) (.type "ValueError") = some true)
    (x_BadLine_GlimError : PySem.W.subIn K (.ref C_BadLine) (.ref C_GlimError) = some true)
    (x_BadWeather_GlimError : PySem.W.subIn K (.ref C_BadWeather) (.ref C_GlimError) = some true)
    : ∃ fd : FuncData, (∀ (s : Shared) (v : Value), BindsTo s fd ⟨[v], []⟩ [("_law_script", v)]) ∧ ∀ base : Heap, K.In base → base.Ns mainGlobals mg → GOk l.prog w K mg base CX0 12 fa fd ["_law_script"] (sp1 (p_law K)) := by
  have e := hfa.symm.trans (PySem.W.mg_of X G a46)
  cases e
  have F1 := fun_mk (st := s_is_integer) l1 c1 k1
  have F2 : FunD K "deep" "deep" (defArgs s_deep) (defBody s_deep) (defScope s_deep) [.int 0] [] f2 _ := ⟨⟨_, _, _, _, _, _, _, _, _, _, rfl, l2, c2, (.inr ⟨by simp, D2, _, _, _, rfl, e2, rfl, (.cons ⟨_, rfl⟩ .nil)⟩), .inl rfl⟩, k2⟩
  have E2 := FunD.binds1 (ps := ["thing", "level"]) F2 1 0 (by simp) rfl fun _ _ _ _ _ _ _ us its h1 h2 => match us, its, h1, h2 with | [_], [_], _, _ => ⟨_, rfl, rfl⟩
  have B2 := FunD.binds1 (ps := ["thing", "level"]) F2 2 1 (by simp) rfl fun _ _ _ _ _ _ _ us its h1 h2 => match us, its, h1, h2 with | [_, _], [_], _, _ => ⟨_, rfl, rfl⟩
  have B2 : Binds K _ ["thing", "level"] [] := (by obtain ⟨ds, h1, h2⟩ := B2; cases h1; exact h2)
  have F3 := fun_mk (st := s_is_sign) l3 c3 k3
  have F4 := fun_mk (st := s_is_lit) l4 c4 k4
  have F5 := fun_mk (st := s_is_number) l5 c5 k5
  have F6 : FunD K "__init__" "Lines.__init__" (defArgs s_Lines___init__) (defBody s_Lines___init__) (defScope s_Lines___init__) [.int 0] [] f6 _ := ⟨⟨_, _, _, _, _, _, _, _, _, _, rfl, l6, c6, (.inr ⟨by simp, D6, _, _, _, rfl, e6, rfl, (.cons ⟨_, rfl⟩ .nil)⟩), .inl rfl⟩, k6⟩
  have E6 := FunD.binds1 (ps := ["self", "texts", "at"]) F6 2 0 (by simp) rfl fun _ _ _ _ _ _ _ us its h1 h2 => match us, its, h1, h2 with | [_, _], [_], _, _ => ⟨_, rfl, rfl⟩
  have B6 := FunD.binds1 (ps := ["self", "texts", "at"]) F6 3 1 (by simp) rfl fun _ _ _ _ _ _ _ us its h1 h2 => match us, its, h1, h2 with | [_, _, _], [_], _, _ => ⟨_, rfl, rfl⟩
  have B6 : Binds K _ ["self", "texts", "at"] [] := (by obtain ⟨ds, h1, h2⟩ := B6; cases h1; exact h2)
  have F7 : FunD K "is_over" "Lines.is_over" (defArgs s_Lines_is_over) (defBody s_Lines_is_over) (defScope s_Lines_is_over) [] [] f7 _ := ⟨⟨_, _, _, _, _, _, _, _, _, _, rfl, l7, c7, (.inl ⟨rfl, rfl⟩), .inl rfl⟩, k7⟩
  have B7 : Binds K _ ["self"] [] := FunD.bindsN (ps := ["self"]) F7 fun _ _ _ _ _ _ us hl => match us, hl with | [_], _ => rfl
  have E7 : ∃ ds, Vals [] ds ∧ Binds K _ ["self"] ds := ⟨[], .nil, B7⟩
  have F8 : FunD K "words" "Lines.words" (defArgs s_Lines_words) (defBody s_Lines_words) (defScope s_Lines_words) [] [] f8 _ := ⟨⟨_, _, _, _, _, _, _, _, _, _, rfl, l8, c8, (.inl ⟨rfl, rfl⟩), .inl rfl⟩, k8⟩
  have B8 : Binds K _ ["self"] [] := FunD.bindsN (ps := ["self"]) F8 fun _ _ _ _ _ _ us hl => match us, hl with | [_], _ => rfl
  have E8 : ∃ ds, Vals [] ds ∧ Binds K _ ["self"] ds := ⟨[], .nil, B8⟩
  have F9 : FunD K "first_word" "Lines.first_word" (defArgs s_Lines_first_word) (defBody s_Lines_first_word) (defScope s_Lines_first_word) [] [] f9 _ := ⟨⟨_, _, _, _, _, _, _, _, _, _, rfl, l9, c9, (.inl ⟨rfl, rfl⟩), .inl rfl⟩, k9⟩
  have B9 : Binds K _ ["self"] [] := FunD.bindsN (ps := ["self"]) F9 fun _ _ _ _ _ _ us hl => match us, hl with | [_], _ => rfl
  have E9 : ∃ ds, Vals [] ds ∧ Binds K _ ["self"] ds := ⟨[], .nil, B9⟩
  have F10 : FunD K "fail_at" "Lines.fail_at" (defArgs s_Lines_fail_at) (defBody s_Lines_fail_at) (defScope s_Lines_fail_at) [] [] f10 _ := ⟨⟨_, _, _, _, _, _, _, _, _, _, rfl, l10, c10, (.inl ⟨rfl, rfl⟩), .inl rfl⟩, k10⟩
  have B10 : Binds K _ ["self", "number"] [] := FunD.bindsN (ps := ["self", "number"]) F10 fun _ _ _ _ _ _ us hl => match us, hl with | [_, _], _ => rfl
  have E10 : ∃ ds, Vals [] ds ∧ Binds K _ ["self", "number"] ds := ⟨[], .nil, B10⟩
  have F11 : FunD K "word_at" "Lines.word_at" (defArgs s_Lines_word_at) (defBody s_Lines_word_at) (defScope s_Lines_word_at) [] [] f11 _ := ⟨⟨_, _, _, _, _, _, _, _, _, _, rfl, l11, c11, (.inl ⟨rfl, rfl⟩), .inl rfl⟩, k11⟩
  have B11 : Binds K _ ["self", "number"] [] := FunD.bindsN (ps := ["self", "number"]) F11 fun _ _ _ _ _ _ us hl => match us, hl with | [_, _], _ => rfl
  have E11 : ∃ ds, Vals [] ds ∧ Binds K _ ["self", "number"] ds := ⟨[], .nil, B11⟩
  have F12 : FunD K "number_at" "Lines.number_at" (defArgs s_Lines_number_at) (defBody s_Lines_number_at) (defScope s_Lines_number_at) [] [] f12 _ := ⟨⟨_, _, _, _, _, _, _, _, _, _, rfl, l12, c12, (.inl ⟨rfl, rfl⟩), .inl rfl⟩, k12⟩
  have B12 : Binds K _ ["self", "number", "low", "high"] [] := FunD.bindsN (ps := ["self", "number", "low", "high"]) F12 fun _ _ _ _ _ _ us hl => match us, hl with | [_, _, _, _], _ => rfl
  have E12 : ∃ ds, Vals [] ds ∧ Binds K _ ["self", "number", "low", "high"] ds := ⟨[], .nil, B12⟩
  have F13 : FunD K "sign_at" "Lines.sign_at" (defArgs s_Lines_sign_at) (defBody s_Lines_sign_at) (defScope s_Lines_sign_at) [.bl false] [] f13 _ := ⟨⟨_, _, _, _, _, _, _, _, _, _, rfl, l13, c13, (.inr ⟨by simp, D13, _, _, _, rfl, e13, rfl, (.cons rfl .nil)⟩), .inl rfl⟩, k13⟩
  have E13 := FunD.binds1 (ps := ["self", "number", "lit"]) F13 2 0 (by simp) rfl fun _ _ _ _ _ _ _ us its h1 h2 => match us, its, h1, h2 with | [_, _], [_], _, _ => ⟨_, rfl, rfl⟩
  have B13 := FunD.binds1 (ps := ["self", "number", "lit"]) F13 3 1 (by simp) rfl fun _ _ _ _ _ _ _ us its h1 h2 => match us, its, h1, h2 with | [_, _, _], [_], _, _ => ⟨_, rfl, rfl⟩
  have B13 : Binds K _ ["self", "number", "lit"] [] := (by obtain ⟨ds, h1, h2⟩ := B13; cases h1; exact h2)
  have KB13 := FunD.kbinds1 (ps := ["self", "number", "lit"]) F13 2 ["lit"] (by simp) fun _ _ _ _ _ _ _ us its ws h1 h2 h3 => match us, its, ws, h1, h2, h3 with | [_, _], [_], [_], _, _, _ => ⟨_, rfl, rfl⟩
  have F14 : FunD K "close_at" "Lines.close_at" (defArgs s_Lines_close_at) (defBody s_Lines_close_at) (defScope s_Lines_close_at) [] [] f14 _ := ⟨⟨_, _, _, _, _, _, _, _, _, _, rfl, l14, c14, (.inl ⟨rfl, rfl⟩), .inl rfl⟩, k14⟩
  have B14 : Binds K _ ["self", "number"] [] := FunD.bindsN (ps := ["self", "number"]) F14 fun _ _ _ _ _ _ us hl => match us, hl with | [_, _], _ => rfl
  have E14 : ∃ ds, Vals [] ds ∧ Binds K _ ["self", "number"] ds := ⟨[], .nil, B14⟩
  have F15 := fun_mk (st := s_is_lose) l15 c15 k15
  have F16 := fun_mk (st := s_is_miss) l16 c16 k16
  have F17 := fun_mk (st := s_is_taking) l17 c17 k17
  have F18 := fun_mk (st := s_is_weather) l18 c18 k18
  have F19 := fun_mk (st := s_check_weathers) l19 c19 k19
  have F20 := fun_mk (st := s_weather_line) l20 c20 k20
  have F21 := fun_mk (st := s_write_weathers) l21 c21 k21
  have F22 := fun_mk (st := s_weather_at) l22 c22 k22
  have F23 := fun_mk (st := s_read_weathers) l23 c23 k23
  have F24 := fun_mk (st := s_L_draw) l24 c24 k24
  have F25 := fun_mk (st := s_L_mix) l25 c25 k25
  have F26 := fun_mk (st := s_L_pick) l26 c26 k26
  have F27 := fun_mk (st := s_L_is_int) l27 c27 k27
  have F28 := fun_mk (st := s_L_exact) l28 c28 k28
  have F29 := fun_mk (st := s_L_weather) l29 c29 k29
  have F30 := fun_mk (st := s_L_line) l30 c30 k30
  have F31 := fun_mk (st := s_L_is_weather) l31 c31 k31
  have F32 := fun_mk (st := s_L_bad) l32 c32 k32
  have F33 := fun_mk (st := s_L_forms) l33 c33 k33
  have F34 := fun_mk (st := s_L_stands) l34 c34 k34
  have F35 := fun_mk (st := s_L_line_read) l35 c35 k35
  have F36 := fun_mk (st := s_L_due) l36 c36 k36
  have F37 := fun_mk (st := s_L_read) l37 c37 k37
  have F38 := fun_mk (st := s_L_written) l38 c38 k38
  have F39 := fun_mk (st := s_L_word) l39 c39 k39
  have F40 := fun_mk (st := s_L_spoilt_line) l40 c40 k40
  have F41 := fun_mk (st := s_L_near) l41 c41 k41
  have F42 := fun_mk (st := s_L_spoilt) l42 c42 k42
  have F43 := fun_mk (st := s_L_odd) l43 c43 k43
  have F44 := fun_mk (st := s_L_kinds) l44 c44 k44
  have F45 := fun_mk (st := s_L_there_and_back) l45 c45 k45
  have F46 := fun_mk (st := s_law) l46 c46 k46
  have F47 := fun_mk (st := s_BadLine) xf_BadLine xc_BadLine xkf_BadLine
  have F48 := fun_mk (st := s_BadWeather) xf_BadWeather xc_BadWeather xkf_BadWeather
  have T : Txt K mg C_GlimError C_BadLine C_BadWeather C_Lines := {
    d_is_integer := ⟨_, _, F1, PySem.W.mg_of X G a1, (F1.binds (ps := ["thing", "low", "high"]) fun _ _ _ _ _ _ us hl => match us, hl with | [_, _, _], _ => rfl)⟩
    d_deep := ⟨_, _, F2, PySem.W.mg_of X G a2, B2, E2⟩
    d_is_sign := ⟨_, _, F3, PySem.W.mg_of X G a3, (F3.binds (ps := ["thing"]) fun _ _ _ _ _ _ us hl => match us, hl with | [_], _ => rfl)⟩
    d_is_lit := ⟨_, _, F4, PySem.W.mg_of X G a4, (F4.binds (ps := ["thing"]) fun _ _ _ _ _ _ us hl => match us, hl with | [_], _ => rfl)⟩
    d_is_number := ⟨_, _, F5, PySem.W.mg_of X G a5, (F5.binds (ps := ["text"]) fun _ _ _ _ _ _ us hl => match us, hl with | [_], _ => rfl)⟩
    m_Lines___init__ := ⟨f6, _, ⟨wmk_Lines, a6, i6, wkc_Lines⟩, PySem.W.mg_of X G g_Lines, F6, B6, E6⟩
    m_Lines_is_over := ⟨f7, _, ⟨a7, i7, k7⟩, F7, B7, E7⟩
    m_Lines_words := ⟨f8, _, ⟨a8, i8, k8⟩, F8, B8, E8⟩
    m_Lines_first_word := ⟨f9, _, ⟨a9, i9, k9⟩, F9, B9, E9⟩
    m_Lines_fail_at := ⟨f10, _, ⟨a10, i10, k10⟩, F10, B10, E10⟩
    m_Lines_word_at := ⟨f11, _, ⟨a11, i11, k11⟩, F11, B11, E11⟩
    m_Lines_number_at := ⟨f12, _, ⟨a12, i12, k12⟩, F12, B12, E12⟩
    m_Lines_sign_at := ⟨f13, _, ⟨a13, i13, k13⟩, F13, B13, E13⟩
    k_Lines_sign_at := ⟨f13, _, ⟨a13, i13, k13⟩, F13, KB13⟩
    m_Lines_close_at := ⟨f14, _, ⟨a14, i14, k14⟩, F14, B14, E14⟩
    d_is_lose := ⟨_, _, F15, PySem.W.mg_of X G a15, (F15.binds (ps := ["told"]) fun _ _ _ _ _ _ us hl => match us, hl with | [_], _ => rfl)⟩
    d_is_miss := ⟨_, _, F16, PySem.W.mg_of X G a16, (F16.binds (ps := ["told"]) fun _ _ _ _ _ _ us hl => match us, hl with | [_], _ => rfl)⟩
    d_is_taking := ⟨_, _, F17, PySem.W.mg_of X G a17, (F17.binds (ps := ["told"]) fun _ _ _ _ _ _ us hl => match us, hl with | [_], _ => rfl)⟩
    d_is_weather := ⟨_, _, F18, PySem.W.mg_of X G a18, (F18.binds (ps := ["thing"]) fun _ _ _ _ _ _ us hl => match us, hl with | [_], _ => rfl)⟩
    d_check_weathers := ⟨_, _, F19, PySem.W.mg_of X G a19, (F19.binds (ps := ["told"]) fun _ _ _ _ _ _ us hl => match us, hl with | [_], _ => rfl)⟩
    d_weather_line := ⟨_, _, F20, PySem.W.mg_of X G a20, (F20.binds (ps := ["weather"]) fun _ _ _ _ _ _ us hl => match us, hl with | [_], _ => rfl)⟩
    d_write_weathers := ⟨_, _, F21, PySem.W.mg_of X G a21, (F21.binds (ps := ["weathers"]) fun _ _ _ _ _ _ us hl => match us, hl with | [_], _ => rfl)⟩
    d_weather_at := ⟨_, _, F22, PySem.W.mg_of X G a22, (F22.binds (ps := ["reader"]) fun _ _ _ _ _ _ us hl => match us, hl with | [_], _ => rfl)⟩
    d_read_weathers := ⟨_, _, F23, PySem.W.mg_of X G a23, (F23.binds (ps := ["lines"]) fun _ _ _ _ _ _ us hl => match us, hl with | [_], _ => rfl)⟩
    d_L_draw := ⟨_, _, F24, PySem.W.mg_of X G a24, (F24.binds (ps := ["_law_script"]) fun _ _ _ _ _ _ us hl => match us, hl with | [_], _ => rfl)⟩
    d_L_mix := ⟨_, _, F25, PySem.W.mg_of X G a25, (F25.binds (ps := ["_law_cell", "_law_turn"]) fun _ _ _ _ _ _ us hl => match us, hl with | [_, _], _ => rfl)⟩
    d_L_pick := ⟨_, _, F26, PySem.W.mg_of X G a26, (F26.binds (ps := ["_law_draw_here", "_law_many"]) fun _ _ _ _ _ _ us hl => match us, hl with | [_, _], _ => rfl)⟩
    d_L_is_int := ⟨_, _, F27, PySem.W.mg_of X G a27, (F27.binds (ps := ["_law_thing"]) fun _ _ _ _ _ _ us hl => match us, hl with | [_], _ => rfl)⟩
    d_L_exact := ⟨_, _, F28, PySem.W.mg_of X G a28, (F28.binds (ps := ["_law_told", "_law_due_here"]) fun _ _ _ _ _ _ us hl => match us, hl with | [_, _], _ => rfl)⟩
    d_L_weather := ⟨_, _, F29, PySem.W.mg_of X G a29, (F29.binds (ps := ["_law_draw_here"]) fun _ _ _ _ _ _ us hl => match us, hl with | [_], _ => rfl)⟩
    d_L_line := ⟨_, _, F30, PySem.W.mg_of X G a30, (F30.binds (ps := ["_law_weather_here"]) fun _ _ _ _ _ _ us hl => match us, hl with | [_], _ => rfl)⟩
    d_L_is_weather := ⟨_, _, F31, PySem.W.mg_of X G a31, (F31.binds (ps := ["_law_thing"]) fun _ _ _ _ _ _ us hl => match us, hl with | [_], _ => rfl)⟩
    d_L_bad := ⟨_, _, F32, PySem.W.mg_of X G a32, (F32.binds (ps := ["_law_things"]) fun _ _ _ _ _ _ us hl => match us, hl with | [_], _ => rfl)⟩
    d_L_forms := ⟨_, _, F33, PySem.W.mg_of X G a33, (F33.binds (ps := ["_law_word_here"]) fun _ _ _ _ _ _ us hl => match us, hl with | [_], _ => rfl)⟩
    d_L_stands := ⟨_, _, F34, PySem.W.mg_of X G a34, (F34.binds (ps := ["_law_form", "_law_word_here"]) fun _ _ _ _ _ _ us hl => match us, hl with | [_, _], _ => rfl)⟩
    d_L_line_read := ⟨_, _, F35, PySem.W.mg_of X G a35, (F35.binds (ps := ["_law_line_here"]) fun _ _ _ _ _ _ us hl => match us, hl with | [_], _ => rfl)⟩
    d_L_due := ⟨_, _, F36, PySem.W.mg_of X G a36, (F36.binds (ps := ["_law_lines"]) fun _ _ _ _ _ _ us hl => match us, hl with | [_], _ => rfl)⟩
    d_L_read := ⟨_, _, F37, PySem.W.mg_of X G a37, (F37.binds (ps := ["_law_lines"]) fun _ _ _ _ _ _ us hl => match us, hl with | [_], _ => rfl)⟩
    d_L_written := ⟨_, _, F38, PySem.W.mg_of X G a38, (F38.binds (ps := ["_law_weathers"]) fun _ _ _ _ _ _ us hl => match us, hl with | [_], _ => rfl)⟩
    d_L_word := ⟨_, _, F39, PySem.W.mg_of X G a39, (F39.binds (ps := ["_law_draw_here"]) fun _ _ _ _ _ _ us hl => match us, hl with | [_], _ => rfl)⟩
    d_L_spoilt_line := ⟨_, _, F40, PySem.W.mg_of X G a40, (F40.binds (ps := ["_law_draw_here", "_law_line_here"]) fun _ _ _ _ _ _ us hl => match us, hl with | [_, _], _ => rfl)⟩
    d_L_near := ⟨_, _, F41, PySem.W.mg_of X G a41, (F41.binds (ps := ["_law_draw_here"]) fun _ _ _ _ _ _ us hl => match us, hl with | [_], _ => rfl)⟩
    d_L_spoilt := ⟨_, _, F42, PySem.W.mg_of X G a42, (F42.binds (ps := ["_law_draw_here", "_law_lines"]) fun _ _ _ _ _ _ us hl => match us, hl with | [_, _], _ => rfl)⟩
    d_L_odd := ⟨_, _, F43, PySem.W.mg_of X G a43, (F43.binds (ps := ["_law_draw_here", "_law_weather_here"]) fun _ _ _ _ _ _ us hl => match us, hl with | [_, _], _ => rfl)⟩
    d_L_kinds := ⟨_, _, F44, PySem.W.mg_of X G a44, (F44.binds (ps := ["_law_draw_here", "_law_things"]) fun _ _ _ _ _ _ us hl => match us, hl with | [_, _], _ => rfl)⟩
    d_L_there_and_back := ⟨_, _, F45, PySem.W.mg_of X G a45, (F45.binds (ps := ["_law_draw_here", "_law_weathers", "_law_lines"]) fun _ _ _ _ _ _ us hl => match us, hl with | [_, _, _], _ => rfl)⟩
    d_law := ⟨_, _, F46, PySem.W.mg_of X G a46, (F46.binds (ps := ["_law_script"]) fun _ _ _ _ _ _ us hl => match us, hl with | [_], _ => rfl)⟩
    b_ValueError := PySem.W.mg_none_of X G z_ValueError
    b_abs := PySem.W.mg_none_of X G z_abs
    b_bool := PySem.W.mg_none_of X G z_bool
    b_enumerate := PySem.W.mg_none_of X G z_enumerate
    b_int := PySem.W.mg_none_of X G z_int
    b_isinstance := PySem.W.mg_none_of X G z_isinstance
    b_len := PySem.W.mg_none_of X G z_len
    b_list := PySem.W.mg_none_of X G z_list
    b_range := PySem.W.mg_none_of X G z_range
    b_repr := PySem.W.mg_none_of X G z_repr
    b_str := PySem.W.mg_none_of X G z_str
    b_sum := PySem.W.mg_none_of X G z_sum
    b_tuple := PySem.W.mg_none_of X G z_tuple
    g_SIGNS := ⟨t_SIGNS, (PySem.W.mg_of X G v_SIGNS).trans (congrArg some (congrArg (fun z => Value.str z t_SIGNS) (by decide +kernel : (".grw" : Str) = ⟨([46, 103, 114, 119] : List Nat).toArray⟩)))⟩
    g_MOST_LEVELS := ⟨t_MOST_LEVELS, PySem.W.mg_of X G v_MOST_LEVELS⟩
    g_DIGITS := ⟨t_DIGITS, (PySem.W.mg_of X G v_DIGITS).trans (congrArg some (congrArg (fun z => Value.str z t_DIGITS) (by decide +kernel : ("0123456789" : Str) = ⟨([48, 49, 50, 51, 52, 53, 54, 55, 56, 57] : List Nat).toArray⟩)))⟩
    g_MOST_WEATHERS := ⟨t_MOST_WEATHERS, PySem.W.mg_of X G v_MOST_WEATHERS⟩
    c_GlimError := PySem.W.mg_of X G g_GlimError
    c_BadLine := PySem.W.mg_of X G g_BadLine
    c_BadWeather := PySem.W.mg_of X G g_BadWeather
    c_Lines := PySem.W.mg_of X G g_Lines
    cl_Lines := ⟨wpg_Lines, whd_Lines, wpo_Lines, wsa_Lines⟩
    na_Lines_texts := wna_Lines_texts
    na_Lines_now := wna_Lines_now
    o_BadLine := ⟨⟨nm_BadLine, q_BadLine, N_BadLine, bs_BadLine, bm_BadLine, sn_BadLine, sub_BadLine, ab_BadLine, col_BadLine, dd_BadLine, m0_BadLine, m1_BadLine, m2_BadLine, m3_BadLine, m5_BadLine, xl_BadLine, xr_BadLine⟩, xsa_BadLine, xe_BadLine, xty_BadLine, xk_BadLine⟩
    nf_BadLine_line := xnf_BadLine_line
    nf_BadLine_word := xnf_BadLine_word
    i_BadLine := ⟨f47, _, xi_BadLine, xt_BadLine, F47, (F47.binds (ps := ["self", "line", "word"]) fun _ _ _ _ _ _ us hl => match us, hl with | [_, _, _], _ => rfl)⟩
    e_BadLine := ⟨xis_BadLine, xga_BadLine, xgg_BadLine, xe_BadLine, xhd_BadLine, xca_BadLine, xsp, xtk, xm_BadLine⟩
    o_BadWeather := ⟨⟨nm_BadWeather, q_BadWeather, N_BadWeather, bs_BadWeather, bm_BadWeather, sn_BadWeather, sub_BadWeather, ab_BadWeather, col_BadWeather, dd_BadWeather, m0_BadWeather, m1_BadWeather, m2_BadWeather, m3_BadWeather, m5_BadWeather, xl_BadWeather, xr_BadWeather⟩, xsa_BadWeather, xe_BadWeather, xty_BadWeather, xk_BadWeather⟩
    nf_BadWeather_number := xnf_BadWeather_number
    i_BadWeather := ⟨f48, _, xi_BadWeather, xt_BadWeather, F48, (F48.binds (ps := ["self", "number"]) fun _ _ _ _ _ _ us hl => match us, hl with | [_, _], _ => rfl)⟩
    e_BadWeather := ⟨xis_BadWeather, xga_BadWeather, xgg_BadWeather, xe_BadWeather, xhd_BadWeather, xca_BadWeather, xsp, xtk, xm_BadWeather⟩
    k_BadLine_BadLine := Fg.kit_ref qi_BadLine qt_BadLine qs_BadLine y_BadLine_BadLine
    k_BadLine_BadWeather := Fg.kit_ref qi_BadWeather qt_BadWeather qs_BadWeather y_BadLine_BadWeather
    k_BadLine_ValueError := Fg.kit_base (by decide +kernel) y_BadLine_ValueError
    k_BadWeather_BadLine := Fg.kit_ref qi_BadLine qt_BadLine qs_BadLine y_BadWeather_BadLine
    k_BadWeather_BadWeather := Fg.kit_ref qi_BadWeather qt_BadWeather qs_BadWeather y_BadWeather_BadWeather
    k_BadWeather_ValueError := Fg.kit_base (by decide +kernel) y_BadWeather_ValueError
    m_BadLine_GlimError := Fg.exm_ref qi_GlimError qt_GlimError qb_GlimError x_BadLine_GlimError
    m_BadWeather_GlimError := Fg.exm_ref qi_GlimError qt_GlimError qb_GlimError x_BadWeather_GlimError }
  refine ⟨PySem.W.fnOf "law" "law" (defArgs s_law) (defBody s_law) (defScope s_law) .none kV46 dc46 pm46 an46 cd46 ct46, fun s v => .of_eq rfl, fun base _ _ => ?_⟩
  exact ok_law_at F46 T
end K12
open PySem PySem.W PyProof.Rows
set_option maxRecDepth 100000 in
set_option maxHeartbeats 0 in
theorem PySem.Challenge.cw_falseglim_k12_weather_lines_holds : PySem.Challenge.rw_falseglim_k12_weather_lines.Holds := by
  w_on; o_law; k_head; (case hw => w_witness2)
  k_fill
  refine Fg.walk_g (l := PySem.Challenge.rw_falseglim_k12_weather_lines) (n := 63) (k := 12) (x := "_law_script") (CX := fun _ => L2.CX0) (sp := fun w => Fg.sp1 (K12.p_law _)) rfl (by decide) rfl ⟨rfl, by decide, by decide⟩ (fun w h Y => PySem.W.kIn_of Y) ?F (fun _ _ a ns hl _ hS => ⟨.ref a, rfl, a, ns, rfl, hS, hl, fun _ => rfl⟩) (fun _ _ _ _ _ h => h)
  case F =>
    intro w mg fa h KX G hmg
    refine' K12.all_mk KX G hmg ?a1 ?l1 ?c1 ?k1 ?a2 ?l2 ?c2 ?k2 ?e2 ?a3 ?l3 ?c3 ?k3 ?a4 ?l4 ?c4 ?k4 ?a5 ?l5 ?c5 ?k5 ?a6 ?i6 ?l6 ?c6 ?k6 ?e6 ?a7 ?i7 ?l7 ?c7 ?k7 ?a8 ?i8 ?l8 ?c8 ?k8 ?a9 ?i9 ?l9 ?c9 ?k9 ?a10 ?i10 ?l10 ?c10 ?k10 ?a11 ?i11 ?l11 ?c11 ?k11 ?a12 ?i12 ?l12 ?c12 ?k12 ?a13 ?i13 ?l13 ?c13 ?k13 ?e13 ?a14 ?i14 ?l14 ?c14 ?k14 ?a15 ?l15 ?c15 ?k15 ?a16 ?l16 ?c16 ?k16 ?a17 ?l17 ?c17 ?k17 ?a18 ?l18 ?c18 ?k18 ?a19 ?l19 ?c19 ?k19 ?a20 ?l20 ?c20 ?k20 ?a21 ?l21 ?c21 ?k21 ?a22 ?l22 ?c22 ?k22 ?a23 ?l23 ?c23 ?k23 ?a24 ?l24 ?c24 ?k24 ?a25 ?l25 ?c25 ?k25 ?a26 ?l26 ?c26 ?k26 ?a27 ?l27 ?c27 ?k27 ?a28 ?l28 ?c28 ?k28 ?a29 ?l29 ?c29 ?k29 ?a30 ?l30 ?c30 ?k30 ?a31 ?l31 ?c31 ?k31 ?a32 ?l32 ?c32 ?k32 ?a33 ?l33 ?c33 ?k33 ?a34 ?l34 ?c34 ?k34 ?a35 ?l35 ?c35 ?k35 ?a36 ?l36 ?c36 ?k36 ?a37 ?l37 ?c37 ?k37 ?a38 ?l38 ?c38 ?k38 ?a39 ?l39 ?c39 ?k39 ?a40 ?l40 ?c40 ?k40 ?a41 ?l41 ?c41 ?k41 ?a42 ?l42 ?c42 ?k42 ?a43 ?l43 ?c43 ?k43 ?a44 ?l44 ?c44 ?k44 ?a45 ?l45 ?c45 ?k45 ?a46 ?l46 ?c46 ?k46 ?wpg_Lines ?whd_Lines ?wpo_Lines ?wsa_Lines ?wmk_Lines ?wkc_Lines ?wna_Lines_texts ?wna_Lines_now ?z_ValueError ?z_abs ?z_bool ?z_enumerate ?z_int ?z_isinstance ?z_len ?z_list ?z_range ?z_repr ?z_str ?z_sum ?z_tuple ?v_SIGNS ?v_MOST_LEVELS ?v_DIGITS ?v_MOST_WEATHERS ?g_GlimError ?g_BadLine ?g_BadWeather ?g_Lines ?xl_BadLine ?xr_BadLine ?xsa_BadLine ?xga_BadLine ?xgg_BadLine ?xnf_BadLine_line ?xnf_BadLine_word ?xi_BadLine ?xt_BadLine ?xf_BadLine ?xc_BadLine ?xkf_BadLine ?xk_BadLine ?xe_BadLine ?xty_BadLine ?xhd_BadLine ?xis_BadLine ?xca_BadLine ?xm_BadLine ?xl_BadWeather ?xr_BadWeather ?xsa_BadWeather ?xga_BadWeather ?xgg_BadWeather ?xnf_BadWeather_number ?xi_BadWeather ?xt_BadWeather ?xf_BadWeather ?xc_BadWeather ?xkf_BadWeather ?xk_BadWeather ?xe_BadWeather ?xty_BadWeather ?xhd_BadWeather ?xis_BadWeather ?xca_BadWeather ?xm_BadWeather ?xsp ?xtk ?qi_BadLine ?qt_BadLine ?qs_BadLine ?qb_BadLine ?qi_BadWeather ?qt_BadWeather ?qs_BadWeather ?qb_BadWeather ?qi_GlimError ?qt_GlimError ?qs_GlimError ?qb_GlimError ?y_BadLine_BadLine ?y_BadLine_BadWeather ?y_BadLine_ValueError ?y_BadWeather_BadLine ?y_BadWeather_BadWeather ?y_BadWeather_ValueError ?x_BadLine_GlimError ?x_BadWeather_GlimError
    (case g_GlimError => k_is)
    (case g_BadLine => k_is)
    (case g_BadWeather => k_is)
    (case g_Lines => k_is)
    (case a1 => k_is)
    (case l1 => k_is)
    (case c1 => k_is)
    (case k1 => k_is)
    (case a2 => k_is)
    (case l2 => k_is)
    (case c2 => k_is)
    (case k2 => k_is)
    (case e2 => k_is)
    (case a3 => k_is)
    (case l3 => k_is)
    (case c3 => k_is)
    (case k3 => k_is)
    (case a4 => k_is)
    (case l4 => k_is)
    (case c4 => k_is)
    (case k4 => k_is)
    (case a5 => k_is)
    (case l5 => k_is)
    (case c5 => k_is)
    (case k5 => k_is)
    (case a6 => k_is)
    (case i6 => k_is)
    (case l6 => k_is)
    (case c6 => k_is)
    (case k6 => k_is)
    (case e6 => k_is)
    (case a7 => k_is)
    (case i7 => k_is)
    (case l7 => k_is)
    (case c7 => k_is)
    (case k7 => k_is)
    (case a8 => k_is)
    (case i8 => k_is)
    (case l8 => k_is)
    (case c8 => k_is)
    (case k8 => k_is)
    (case a9 => k_is)
    (case i9 => k_is)
    (case l9 => k_is)
    (case c9 => k_is)
    (case k9 => k_is)
    (case a10 => k_is)
    (case i10 => k_is)
    (case l10 => k_is)
    (case c10 => k_is)
    (case k10 => k_is)
    (case a11 => k_is)
    (case i11 => k_is)
    (case l11 => k_is)
    (case c11 => k_is)
    (case k11 => k_is)
    (case a12 => k_is)
    (case i12 => k_is)
    (case l12 => k_is)
    (case c12 => k_is)
    (case k12 => k_is)
    (case a13 => k_is)
    (case i13 => k_is)
    (case l13 => k_is)
    (case c13 => k_is)
    (case k13 => k_is)
    (case e13 => k_is)
    (case a14 => k_is)
    (case i14 => k_is)
    (case l14 => k_is)
    (case c14 => k_is)
    (case k14 => k_is)
    (case a15 => k_is)
    (case l15 => k_is)
    (case c15 => k_is)
    (case k15 => k_is)
    (case a16 => k_is)
    (case l16 => k_is)
    (case c16 => k_is)
    (case k16 => k_is)
    (case a17 => k_is)
    (case l17 => k_is)
    (case c17 => k_is)
    (case k17 => k_is)
    (case a18 => k_is)
    (case l18 => k_is)
    (case c18 => k_is)
    (case k18 => k_is)
    (case a19 => k_is)
    (case l19 => k_is)
    (case c19 => k_is)
    (case k19 => k_is)
    (case a20 => k_is)
    (case l20 => k_is)
    (case c20 => k_is)
    (case k20 => k_is)
    (case a21 => k_is)
    (case l21 => k_is)
    (case c21 => k_is)
    (case k21 => k_is)
    (case a22 => k_is)
    (case l22 => k_is)
    (case c22 => k_is)
    (case k22 => k_is)
    (case a23 => k_is)
    (case l23 => k_is)
    (case c23 => k_is)
    (case k23 => k_is)
    (case a24 => k_is)
    (case l24 => k_is)
    (case c24 => k_is)
    (case k24 => k_is)
    (case a25 => k_is)
    (case l25 => k_is)
    (case c25 => k_is)
    (case k25 => k_is)
    (case a26 => k_is)
    (case l26 => k_is)
    (case c26 => k_is)
    (case k26 => k_is)
    (case a27 => k_is)
    (case l27 => k_is)
    (case c27 => k_is)
    (case k27 => k_is)
    (case a28 => k_is)
    (case l28 => k_is)
    (case c28 => k_is)
    (case k28 => k_is)
    (case a29 => k_is)
    (case l29 => k_is)
    (case c29 => k_is)
    (case k29 => k_is)
    (case a30 => k_is)
    (case l30 => k_is)
    (case c30 => k_is)
    (case k30 => k_is)
    (case a31 => k_is)
    (case l31 => k_is)
    (case c31 => k_is)
    (case k31 => k_is)
    (case a32 => k_is)
    (case l32 => k_is)
    (case c32 => k_is)
    (case k32 => k_is)
    (case a33 => k_is)
    (case l33 => k_is)
    (case c33 => k_is)
    (case k33 => k_is)
    (case a34 => k_is)
    (case l34 => k_is)
    (case c34 => k_is)
    (case k34 => k_is)
    (case a35 => k_is)
    (case l35 => k_is)
    (case c35 => k_is)
    (case k35 => k_is)
    (case a36 => k_is)
    (case l36 => k_is)
    (case c36 => k_is)
    (case k36 => k_is)
    (case a37 => k_is)
    (case l37 => k_is)
    (case c37 => k_is)
    (case k37 => k_is)
    (case a38 => k_is)
    (case l38 => k_is)
    (case c38 => k_is)
    (case k38 => k_is)
    (case a39 => k_is)
    (case l39 => k_is)
    (case c39 => k_is)
    (case k39 => k_is)
    (case a40 => k_is)
    (case l40 => k_is)
    (case c40 => k_is)
    (case k40 => k_is)
    (case a41 => k_is)
    (case l41 => k_is)
    (case c41 => k_is)
    (case k41 => k_is)
    (case a42 => k_is)
    (case l42 => k_is)
    (case c42 => k_is)
    (case k42 => k_is)
    (case a43 => k_is)
    (case l43 => k_is)
    (case c43 => k_is)
    (case k43 => k_is)
    (case a44 => k_is)
    (case l44 => k_is)
    (case c44 => k_is)
    (case k44 => k_is)
    (case a45 => k_is)
    (case l45 => k_is)
    (case c45 => k_is)
    (case k45 => k_is)
    (case a46 => k_is)
    (case l46 => k_is)
    (case c46 => k_is)
    (case k46 => k_is)
    (case wpg_Lines => k_is)
    (case whd_Lines => k_is)
    (case wpo_Lines => k_is)
    (case wsa_Lines => k_is)
    (case wmk_Lines => k_is)
    (case wkc_Lines => k_is)
    (case wna_Lines_texts => k_is)
    (case wna_Lines_now => k_is)
    (case z_ValueError => k_is)
    (case z_abs => k_is)
    (case z_bool => k_is)
    (case z_enumerate => k_is)
    (case z_int => k_is)
    (case z_isinstance => k_is)
    (case z_len => k_is)
    (case z_list => k_is)
    (case z_range => k_is)
    (case z_repr => k_is)
    (case z_str => k_is)
    (case z_sum => k_is)
    (case z_tuple => k_is)
    (case v_SIGNS => k_is)
    (case v_MOST_LEVELS => k_is)
    (case v_DIGITS => k_is)
    (case v_MOST_WEATHERS => k_is)
    (case xl_BadLine => k_is)
    (case xr_BadLine => first | rfl | k_is | decide +kernel)
    (case xsa_BadLine => k_is)
    (case xga_BadLine => k_is)
    (case xgg_BadLine => k_is)
    (case xnf_BadLine_line => k_is)
    (case xnf_BadLine_word => k_is)
    (case xi_BadLine => k_is)
    (case xt_BadLine => k_is)
    (case xf_BadLine => k_is)
    (case xc_BadLine => k_is)
    (case xkf_BadLine => k_is)
    (case xk_BadLine => k_is)
    (case xe_BadLine => k_is)
    (case xty_BadLine => k_is)
    (case xhd_BadLine => k_is)
    (case xis_BadLine => k_is)
    (case xca_BadLine => k_is)
    (case xm_BadLine => k_is)
    (case xl_BadWeather => k_is)
    (case xr_BadWeather => first | rfl | k_is | decide +kernel)
    (case xsa_BadWeather => k_is)
    (case xga_BadWeather => k_is)
    (case xgg_BadWeather => k_is)
    (case xnf_BadWeather_number => k_is)
    (case xi_BadWeather => k_is)
    (case xt_BadWeather => k_is)
    (case xf_BadWeather => k_is)
    (case xc_BadWeather => k_is)
    (case xkf_BadWeather => k_is)
    (case xk_BadWeather => k_is)
    (case xe_BadWeather => k_is)
    (case xty_BadWeather => k_is)
    (case xhd_BadWeather => k_is)
    (case xis_BadWeather => k_is)
    (case xca_BadWeather => k_is)
    (case xm_BadWeather => k_is)
    (case xsp => k_is)
    (case xtk => k_is)
    (case qi_BadLine => k_is)
    (case qt_BadLine => k_is)
    (case qs_BadLine => k_is)
    (case qb_BadLine => k_is)
    (case qi_BadWeather => k_is)
    (case qt_BadWeather => k_is)
    (case qs_BadWeather => k_is)
    (case qb_BadWeather => k_is)
    (case qi_GlimError => k_is)
    (case qt_GlimError => k_is)
    (case qs_GlimError => k_is)
    (case qb_GlimError => k_is)
    (case y_BadLine_BadLine => k_is)
    (case y_BadLine_BadWeather => k_is)
    (case y_BadLine_ValueError => k_is)
    (case y_BadWeather_BadLine => k_is)
    (case y_BadWeather_BadWeather => k_is)
    (case y_BadWeather_ValueError => k_is)
    (case x_BadLine_GlimError => k_is)
    (case x_BadWeather_GlimError => k_is)
