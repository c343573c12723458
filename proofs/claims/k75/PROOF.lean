import PyProof.Rows.All
import Wide.All
import OpenK.AllK
import Wide.FinOn
import HandS.ForMost
import HandS.Exc
import HandS.ExcOwn
import HandS.WordsExc
import HandS.TryOnly
import HandS.ExcInit
import HandS.ExcField
import HandS.ExcIs
import HandS.IsInst
import HandS.TryMany
import HandS.Wide
import HandS.Steps
import HandS.TupAny
import HandS.Walk
import HandS.Evl
import KE.GoesEnum
import KE.KExcIs
import HandS.Conv
import HandS.Defaults
import HandS.Deep
import PyProof.EnumMake
import KE.GoesMore
import HandS.Replace
import HandS.ReplaceLit
import HandS.RaiseMore
import PyProof.ReprBulk
import HandS.IterVal
import HandS.Property
import HandS.Star
import HandS.OwnIter
import HandS.More
import PyProof.ReprReads
import KE.KRevSl
import PyProof.RowDictHeap
import PySem.Challenge.RW_falseglim_k75_signals_and_rows
import KE.DataCmp
import PyProof.P3Eq
set_option Elab.async false
set_option linter.all false
set_option maxRecDepth 100000
set_option maxHeartbeats 4000000
/-! Rules that ask nothing of the kinds: one rule for each sign of Python, its reading told by the values. -/
namespace Fg
open PySem PySem.Spec PyProof.Rows L2

/-- a text by its signs -/
def S (l : List Nat) : V := .str ⟨l.toArray⟩
theorem S_inj {l m : List Nat} : S l = S m ↔ l = m := by
  constructor
  · intro h
    have h1 := V.str.inj h
    have h2 := congrArg PySem.Str.cps h1
    exact List.toArray_inj h2
  · rintro rfl; rfl
theorem S_dec {l m : List Nat} : decide (S l = S m) = decide (l = m) := by
  rw [Bool.eq_iff_iff]; simp [S_inj]
theorem str_len (l : List Nat) : (⟨l.toArray⟩ : Str).length = l.length := by
  show l.toArray.size = l.length
  simp
theorem pe_S {X : Cx} {x : Str} {j : Nat} {pos : Pos} (l : List Nat) (h : x = ⟨l.toArray⟩ := by decide +kernel) : PE X (.Constant (.str x) j pos) (tC (S l)) := by
  subst h
  exact pe_str

/-! ### either of two readings -/
def or2 (r r' : R2) : R2 := fun x y H Q => r x y H Q ∨ r' x y H Q
theorem or2_op {X : Cx} {f : Value → Value → Sem Value} {r r' : R2} (h : OpR X f r) (h' : OpR X f r') : OpR X f (or2 r r') := by
  intro pins s σ H x y v u Q I rx ry q
  rcases q with q | q
  · exact h pins s σ H x y v u Q I rx ry q
  · exact h' pins s σ H x y v u Q I rx ry q
theorem or2_ix {X : Cx} {r r' : R2} (h : IxR X r) (h' : IxR X r') : IxR X (or2 r r') := by
  intro value slice pins s σ H x y v u Q I rx ry q hs
  rcases q with q | q
  · exact h value slice pins s σ H x y v u Q I rx ry q hs
  · exact h' value slice pins s σ H x y v u Q I rx ry q hs
abbrev RC := List V → Hp → VK → Prop
def orC (r r' : RC) : RC := fun xs H Q => r xs H Q ∨ r' xs H Q
theorem orC_call {X : Cx} {f : Value} {r r' : RC} (h : CallR X f r) (h' : CallR X f r') : CallR X f (orC r r') := by
  intro pins s σ H xs us Q I rx q
  rcases q with q | q
  · exact h pins s σ H xs us Q I rx q
  · exact h' pins s σ H xs us Q I rx q
abbrev RS := V → Option Int → Option Int → Hp → VK → Prop
def orS (r r' : RS) : RS := fun x lo hi H Q => r x lo hi H Q ∨ r' x lo hi H Q
theorem orS_sl {X : Cx} {r r' : RS} (h : SlR X r) (h' : SlR X r') : SlR X (orS r r') := by
  intro pins s σ H x v vl vu lo hi sl Q I rx hs pl pu q
  rcases q with q | q
  · exact h pins s σ H x v vl vu lo hi sl Q I rx hs pl pu q
  · exact h' pins s σ H x v vl vu lo hi sl Q I rx hs pl pu q

/-! ### + - * // % ** -/
def rAddI : R2 := rI0 fun i j => .int (i + j)
def rAddT : R2 := fun x y H Q => ∃ i j, x = .str i ∧ y = .str j ∧ i.length + j.length ≤ sizeLine ∧ Q (.str (i ++ j)) H
def addP (K : PySem.W.Frag) : R2 := or2 rAddI (or2 rAddT (or2 rCat (rCatA K)))
theorem op_addP {X : Cx} : OpR X (binaryOp .Add) (addP X.K) := or2_op op_add (or2_op op_add_str (or2_op op_cat op_catA))
def subP : R2 := rI0 fun i j => .int (i - j)
theorem op_subP {X : Cx} : OpR X (binaryOp .Sub) subP := op_sub
/-- a text so many times -/
def rRepS : R2 := fun x y H Q => ∃ (l : List Nat) (n : Nat), x = S l ∧ y = .int (n : Int) ∧ l.length * n ≤ 100000 ∧ n ≤ 100000 ∧ Q (S (List.replicate n l).flatten) H
theorem foldl_app (l : List Nat) : ∀ (n : Nat) (acc : List Nat), (List.replicate n l.toArray).foldl (· ++ ·) acc.toArray = (acc ++ (List.replicate n l).flatten).toArray
  | 0, acc => by simp
  | n + 1, acc => by
    rw [List.replicate_succ, List.foldl_cons, List.append_toArray, foldl_app l n (acc ++ l), List.replicate_succ, List.flatten_cons, List.append_assoc]
theorem op_repS {X : Cx} : OpR X (binaryOp .Mult) rRepS := by
  intro pins s σ H x y v u Q I rx ry h
  obtain ⟨l, n, rfl, rfl, hz, hn, q⟩ := h
  obtain ⟨t, rfl⟩ := rx
  obtain ⟨t', rfl⟩ := ry
  have hl := str_len l
  have hs : sizeLine = 16777216 := sizeLine_eq
  refine PySem.P.mul_str ?_ (fun h1 h2 => ?_) (fun h1 h2 => ?_) ?_
  · rw [decide_eq_false (by omega), decide_eq_false (by omega)]; rfl
  · rw [hl]
    have hn0 : (0 : Int) < (n : Int) := by omega
    have : ((l.length : Int)) ≤ (2 ^ 63 - 1) / (n : Int) := by
      rw [Int.le_ediv_iff_mul_le hn0]
      have : ((l.length * n : Nat) : Int) ≤ 100000 := by omega
      rw [Int.natCast_mul] at this
      omega
    omega
  · rw [hl, Int.toNat_natCast]
    unfold PySem.Builtin.Str.tooLong
    rw [decide_eq_false]
    omega
  · by_cases h1 : (n : Int) < 1
    · rw [if_pos h1]
      have e : n = 0 := by omega
      subst e
      exact ⟨by decide, S [], H, I.tok _, ⟨_, rfl⟩, by simpa using q⟩
    · rw [if_neg h1]
      by_cases h2 : ((n : Int) == 1 || (⟨l.toArray⟩ : Str).length == 0) = true
      · rw [if_pos h2]
        have e : (List.replicate n l).flatten = l := by
          rw [hl, Bool.or_eq_true, beq_iff_eq, beq_iff_eq] at h2
          rcases h2 with h2 | h2
          · have e : n = 1 := by omega
            subst e; simp
          · have e : l = [] := List.length_eq_zero_iff.mp h2
            subst e; simp
        rw [e] at q
        exact ⟨S l, H, I, ⟨_, rfl⟩, q⟩
      · rw [if_neg h2]
        have e : (⟨(List.replicate ((n : Int)).toNat l.toArray).foldl (· ++ ·) #[]⟩ : Str) = ⟨((List.replicate n l).flatten).toArray⟩ := by
          rw [Int.toNat_natCast]
          have := foldl_app l n []
          simpa using this
        refine ⟨?_, S (List.replicate n l).flatten, H, I.tok _, ⟨_, by rw [e]⟩, q⟩
        rw [e, str_len]
        simp only [List.length_flatten, List.map_replicate, List.sum_replicate_nat]
        rw [Nat.mul_comm]
        omega
def rMulI : R2 := rI (fun i j => IntMulOk i j) fun i j => .int (i * j)
theorem op_mulI {X : Cx} : OpR X (binaryOp .Mult) rMulI := opI fun _ _ _ _ _ _ _ hc q => mul_int q hc
def mulP : R2 := or2 rMulI (or2 rRepS rRep)
theorem op_mulP {X : Cx} : OpR X (binaryOp .Mult) mulP := or2_op op_mulI (or2_op op_repS op_rep)
def modP : R2 := rI (fun _ j => 0 < j) fun i j => .int (i % j)
theorem op_modP {X : Cx} : OpR X (binaryOp .Mod) modP := op_mod
def fdivP : R2 := rI CDivW fun i j => .int (i / j)
theorem op_fdivP {X : Cx} : OpR X (binaryOp .FloorDiv) fdivP := op_fdivW
/-- i ** j, the result below some hundred million bits -/
def powP : R2 := rI (fun i j => 0 ≤ j ∧ (Builtin.Int.intBits i : Int) * j ≤ 2 ^ 27) fun i j => .int (i ^ j.toNat)
theorem op_powP {X : Cx} : OpR X (binaryOp .Pow) powP := opI fun _ _ _ _ _ _ _ hc q => pow_int hc.1 hc.2 q
/-! ### comparisons -/
def eqP (K : PySem.W.Frag) : R2 := or2 rEq (rEqD K)
theorem op_eqP {X : Cx} (hu : X.A.units + 64 < cLine) : OpR X (compareOp .Eq) (eqP X.K) := or2_op op_eq (op_eqD hu)
def neP (K : PySem.W.Frag) : R2 := or2 rNe (rNeD K)
theorem op_neP {X : Cx} (hu : X.A.units + 64 < cLine) : OpR X (compareOp .NotEq) (neP X.K) := or2_op op_ne (op_neD hu)
def ltP : R2 := or2 (rI0 fun i j => .bl (decide (i < j))) fun x y H Q => ∃ i j, x = .str i ∧ y = .str j ∧ Q (.bl (decide (i.cps.toList < j.cps.toList))) H
theorem op_ltP {X : Cx} : OpR X (compareOp .Lt) ltP := or2_op op_lt op_lt_str
def leP : R2 := rI0 fun i j => .bl (decide (i ≤ j))
theorem op_leP {X : Cx} : OpR X (compareOp .LtE) leP := op_le
def gtP : R2 := rI0 fun i j => .bl (decide (j < i))
theorem op_gtP {X : Cx} : OpR X (compareOp .Gt) gtP := op_gt
def geP : R2 := rI0 fun i j => .bl (decide (j ≤ i))
theorem op_geP {X : Cx} : OpR X (compareOp .GtE) geP := op_ge
def isP : R2 := fun x y H Q => y = .non ∧ Q (.bl (decide (x = .non))) H
theorem op_isP {X : Cx} : OpR X (compareOp .Is) isP := op_isN
def isNotP : R2 := fun x y H Q => y = .non ∧ Q (.bl (!decide (x = .non))) H
theorem op_isNotP {X : Cx} : OpR X (compareOp .IsNot) isNotP := op_notN
def rInSg : R2 := fun x y H Q => ∃ (c : Nat) (z : Str), x = .str ⟨#[c]⟩ ∧ y = .str z ∧ Q (.bl (decide (c ∈ z.cps.toList))) H
def rNotInSg : R2 := fun x y H Q => ∃ (c : Nat) (z : Str), x = .str ⟨#[c]⟩ ∧ y = .str z ∧ Q (.bl (!decide (c ∈ z.cps.toList))) H
def inP (K : PySem.W.Frag) : R2 := or2 rInSg (rIn K false)
theorem op_inP {X : Cx} : OpR X (compareOp .In) (inP X.K) := or2_op op_in_sign op_in_seq
def notInP (K : PySem.W.Frag) : R2 := or2 rNotInSg (rIn K true)
theorem op_notInP {X : Cx} : OpR X (compareOp .NotIn) (notInP X.K) := or2_op op_notIn_sign op_notIn_seq
/-! ### subscripts, slices -/
def ixP (K : PySem.W.Frag) : R2 := or2 (rIxL K) (or2 (rIxT K) rIxS)
theorem ix_P {X : Cx} : IxR X (ixP X.K) := or2_ix ix_list (or2_ix ix_tup ix_str)
def slP (K : PySem.W.Frag) : RS := orS (rSlL K) (orS (rSlA K) rSlS)
theorem sl_P {X : Cx} : SlR X (slP X.K) := orS_sl sl_list (orS_sl sl_tupA sl_str)
/-! ### what is walked -/
def iAny (K : PySem.W.Frag) (te : TE) : TI := fun σ H R => te σ H fun x H1 => (∃ a xs, x = .ref a ∧ SqL K H1 a xs ∧ R (Itl K a) H1) ∨ (∃ a xs, x = .ref a ∧ SqT K H1 a xs ∧ R (Itt K a) H1) ∨ (∃ z, x = .str z ∧ R (Its z) H1)
section
variable {X : Cx} {tg e : Expr} {te : TE}
theorem pi_any (he : PE X e te) : PI X tg e (iAny X.K te) := by
  refine ⟨fun pins s σ H R I h => thn (he.run pins s σ H _ I h) fun v s1 ⟨x, H1, J, r1, q1⟩ => ?_⟩
  rcases q1 with ⟨a, xs, rfl, hq, q⟩ | ⟨a, xs, rfl, hq, q⟩ | ⟨z, rfl, q⟩
  · cases r1
    obtain ⟨its, rv, pl, hz⟩ := J.list hq
    exact wpAny_pyIter_list pl.isList (pi_one (tk := s1.toks) J _ (turn_list a _) ⟨_, Heap.get?_push_size _ rfl, rfl, rfl⟩ q)
  · cases r1
    obtain ⟨its, rv, pl, hz⟩ := J.tuple hq
    exact wpAny_pyIter_tuple (show s1.heap.IsTuple a its.toArray from pl) (pi_one (tk := s1.toks) J _ (turn_tuple a _) ⟨_, Heap.get?_push_size _ rfl, rfl, rfl⟩ q)
  · obtain ⟨t, rfl⟩ := r1
    cases hw : z.cps.all (· < 128)
    · exact wpAny_pyIter_wide hw (pi_one (tk := s1.toks) J _ (turn_str _ z t "str_iterator" (.inr rfl)) ⟨_, Heap.get?_push_size _ rfl, rfl, rfl⟩ q)
    · exact wpAny_pyIter_ascii hw (pi_one (tk := s1.toks) J _ (turn_str _ z t "str_ascii_iterator" (.inl rfl)) ⟨_, Heap.get?_push_size _ rfl, rfl, rfl⟩ q)
end
/-! ### enumerate(a text) -/
/-- the signs of z, each in a new pair with its place -/
def Ites (z : Str) : It :=
  ⟨fun i _ => i < z.cps.size, fun i H v H' => ∃ T c, v = .ref T ∧ H T = none ∧ H' = upd H T (.tup [.int (i : Nat), .str ⟨#[c]⟩]) ∧ z.cps[i]? = some c, fun i _ => i = z.cps.size⟩
theorem turn_enumS {P : Program} {w : World} {K : PySem.W.Frag} {elts : List Expr} {kk : Nat} {tpos : Pos} (z : Str) (t : Tok) (e it : Addr) :
    Turn P w K (.Tuple elts kk tpos) (Ites z) [e, it] e (fun i h => (∃ old, IsEnum h e it ((i : Nat) : Int) old) ∧ h.IsStrIter it (strIterType z) z t i ∧ e ≠ it) where
  mem := List.mem_cons_self ..
  obj := fun i h st b hb => by
    obtain ⟨⟨old, hE⟩, ⟨o, hO, hC, hD⟩, _⟩ := st
    rcases List.mem_cons.mp hb with rfl | hb
    · exact ⟨_, hE, fun v q => nomatch q⟩
    · rw [List.mem_singleton.mp hb]
      exact ⟨o, hO, fun v q => by rw [hD] at q; cases q⟩
  keep := fun i h h' st k => by
    obtain ⟨⟨old, hE⟩, ⟨o, hO, r⟩, hne⟩ := st
    exact ⟨⟨old, k e (by simp) _ hE⟩, ⟨o, k it (by simp) _ hO, r⟩, hne⟩
  item := by
    intro X hP hW hK hc i pins s σ H E I hf st hg
    subst hP hW hK
    obtain ⟨⟨old, hE⟩, hS, hne⟩ := st
    have le : e < s.heap.objs.size := Heap.lt_size hE
    have li : it < s.heap.objs.size := by obtain ⟨_, q, _⟩ := hS; exact Heap.lt_size q
    have D := Draws.text (prog := X.prog) (w := X.w) (A := X.A.in1) (I.ok.hd hc) it z t
    refine wpAny_pyNext_enum_itemC D hE hS hg hne (by simp [hne]) fun x h' tk hx hO hS' hT hsz hk => ?_
    obtain ⟨c, u, hcx, rfl⟩ := hx
    refine ⟨_, rfl, wpAny_letOwnedTupleGo_enum (s := { s with heap := h', toks := tk + 1 }) hO fun h2 hE2 sb => ?_⟩
    have T2 : h2.get? s.heap.objs.size = some { cls := .type "tuple", data := .seq #[.int i tk, .str ⟨#[c]⟩ u] } := (sb.2 _ (Nat.ne_of_gt le)).trans hT
    have new : ObjOk X.prog X.w (upd H s.heap.objs.size (.tup [.int (i : Nat), .str ⟨#[c]⟩])) h2 s.heap.objs.size (.tup [.int (i : Nat), .str ⟨#[c]⟩]) :=
      ⟨by show 2 ≤ sizeLine; decide, [.int i tk, .str ⟨#[c]⟩ u], .cons ⟨_, rfl⟩ (.cons ⟨_, rfl⟩ .nil), ⟨_, T2, rfl, _, rfl⟩⟩
    have J : Inv X pins σ (upd H s.heap.objs.size (.tup [.int (i : Nat), .str ⟨#[c]⟩])) { s with heap := h2, toks := tk + 1 } :=
      I.turnedNew (ch := [e, it]) (fun b ob hb q => (sb.2 b (fun y => hb (by simp [y]))).trans (hk b ob (fun y => hb (by simp [y])) (fun y => hb (by simp [y])) q)) hf (Nat.le_refl _) new
    refine ⟨.ref s.heap.objs.size, _, J, rfl, ⟨_, c, rfl, I.hok.fresh (Nat.le_refl _), rfl, hcx⟩, ⟨⟨.str ⟨#[c]⟩ u, ?_⟩, ?_, hne⟩, fun b hb => ?_⟩
    · have e1 : ((i + 1 : Nat) : Int) = (i : Int) + 1 := by omega
      rw [e1]
      exact hE2
    · obtain ⟨o, ho, r⟩ := hS'
      exact ⟨o, (sb.2 it (Ne.symm hne)).trans ho, r⟩
    · have lb : b < s.heap.objs.size := by
        rcases List.mem_cons.mp hb with rfl | hb
        · exact le
        · rw [List.mem_singleton.mp hb]; exact li
      rw [upd_ne (Nat.ne_of_lt lb)]
      exact (hf b hb).1
  done := by
    intro X hP hW hK hc i pins s σ H E I hf st hg
    subst hP hW hK
    obtain ⟨⟨old, hE⟩, hS, hne⟩ := st
    obtain ⟨f0, f1, f2, f3, f4, f5⟩ := hf it (by simp)
    have D := Draws.text (prog := X.prog) (w := X.w) (A := X.A.in1) (I.ok.hd hc) it z t
    have hg' : i = z.cps.size := hg
    subst hg'
    exact wpAny_pyNext_enum_endD D hE hS fun h' eb => ⟨rfl, I.turned (t' := s.toks) (fun b o hb q => eb b o hb q) f0 f1 f3 f4 f5⟩
  self := fun A i s Q E st h => by
    obtain ⟨⟨_, hE⟩, _⟩ := st
    exact wpAny_pyIter_enum hE h
def iEnumP (K : PySem.W.Frag) (ta : TA) : TI := fun σ H R => ta σ H fun vs H1 => (∃ a xs, vs = [.ref a] ∧ SqL K H1 a xs ∧ R (Ite K a) H1) ∨ (∃ z, vs = [.str z] ∧ R (Ites z) H1)
theorem pi_enumP {X : Cx} {e : Expr} {ta : TA} {p pos tpos : Pos} {elts : List Expr} {kk : Nat} (hg : Gl X "enumerate") (hm : X.mg "enumerate" = none) (ha : PA X [e] ta) (hs : starEach [e] X.env = [(false, eval e X.env)] := by rfl) :
    PI X (.Tuple elts kk tpos) (.Call (.Name "enumerate" p) [e] [] pos) (iEnumP X.K ta) := by
  refine ⟨fun pins s σ H R I h => Call_ (ld_blt I hg hm boot_enumerate (PyProof.Rows.callWith_type1 (thn (ha.run pos pins s σ H _ I h) fun us s1 ⟨vs, H1, J, r1, q1⟩ => ?_) hs rfl))⟩
  have far : ∀ b ∈ [s1.heap.objs.size + 1, s1.heap.objs.size], s1.heap.objs.size ≤ b := fun b hb => by
    rcases List.mem_cons.mp hb with rfl | hb
    · exact Nat.le_succ _
    · rw [List.mem_singleton.mp hb]; exact Nat.le_refl _
  rcases q1 with ⟨a, xs, rfl, hq, q⟩ | ⟨z, rfl, q⟩
  · cases r1 with
    | cons r rr =>
      cases rr
      cases r
      obtain ⟨its, rv, pl, hz⟩ := J.list hq
      refine call_enumerate_list pl.isList fun h' hE hit hsz hk => wpAny_pyIter_enum hE ?_
      have J2 : Inv X pins σ H1 { s1 with heap := h' } := J.kept (t' := s1.toks) hk
      exact ⟨_, _, _, _, H1, rfl, J2, turn_enum a (s1.heap.objs.size + 1) s1.heap.objs.size, ⟨⟨.none, hE⟩, hit, Nat.succ_ne_self _⟩, fun b hb => J.fpOk (far b hb) (J.hok.fresh (far b hb)), q⟩
  · cases r1 with
    | cons r rr =>
      cases rr
      obtain ⟨t, rfl⟩ := r
      refine call_enumerate_str fun h' hE hit hsz hk => wpAny_pyIter_enum hE ?_
      have J2 : Inv X pins σ H1 { s1 with heap := h' } := J.kept (t' := s1.toks) hk
      exact ⟨_, _, _, _, H1, rfl, J2, turn_enumS z t (s1.heap.objs.size + 1) s1.heap.objs.size, ⟨⟨.none, hE⟩, hit, Nat.succ_ne_self _⟩, fun b hb => J.fpOk (far b hb) (J.hok.fresh (far b hb)), q⟩
end Fg
/-! Steps: what a reading asks, one sign of Python at a time. -/
namespace Fg
open PySem PySem.Spec PyProof.Rows L2
section
variable {K : PySem.W.Frag} {σ : L2.St} {H : Hp} {Q : VK} {D : Ends} {ta tb tc te : TE} {t u : TT} {i j : Nat} {v x y : V} {tr tq : TS} {QB : Bool → Hp → Prop} {QL : List V → Hp → Prop} {Qs : L2.St → Hp → Prop} {tl : TA}
theorem i_var (h : σ[i]? = some (some v)) (q : Q v H) : tVar i σ H Q := ⟨v, h, q⟩
theorem i_c (q : Q v H) : tC v σ H Q := q
theorem i_seq (q : tr { D with nx := tq D } σ H) : tSeq tr tq D σ H := q
theorem i_next (q : D.nx σ H) : tNext D σ H := q
theorem i_brk (q : D.bk σ H) : tBreak D σ H := q
theorem i_cont (q : D.ct σ H) : tCont D σ H := q
theorem i_asg {g : TG} (q : te σ H fun x H1 => g x σ H1 D.nx) : tAsg te g D σ H := q
theorem i_gname (q : Qs (σ.set i (some v)) H) : gName i v σ H Qs := q
theorem i_gname' {σ' : L2.St} (e : σ.set i (some v) = σ') (q : Qs σ' H) : gName i v σ H Qs := by
  subst e; exact q
theorem i_ret (q : te σ H D.rt) : tRet te D σ H := q
theorem i_retN (q : D.rt .non H) : tRetN D σ H := q
theorem i_drop (q : te σ H fun _ H1 => D.nx σ H1) : tDrop te D σ H := q
theorem i_ifS (q : t σ H fun b H1 => if b = true then tr D σ H1 else tq D σ H1) : tIfS t tr tq D σ H := q
theorem i_test (q : te σ H fun x H' => ∃ k, x = .bl k ∧ QB k H') : tTest te σ H QB := q
theorem i_B (q : te σ H fun x H' => ∃ k, x = .bl k ∧ QB k H') : tB te σ H QB := q
theorem i_exbl {P : Bool → Prop} {b : Bool} (q : P b) : ∃ k, V.bl b = .bl k ∧ P k := ⟨b, rfl, q⟩
theorem i_and (q : t σ H fun c H1 => if c = true then u σ H1 QB else QB false H1) : tAnd t u σ H QB := q
theorem i_or (q : t σ H fun c H1 => if c = true then QB true H1 else u σ H1 QB) : tOr t u σ H QB := q
theorem i_not (q : t σ H fun c H1 => QB (!c) H1) : tNot t σ H QB := q
theorem i_andV (q : ta σ H fun x H1 => ∃ c, x = .bl c ∧ if c = true then tb σ H1 Q else Q (.bl false) H1) : tAndV ta tb σ H Q := q
theorem i_orV (q : ta σ H fun x H1 => ∃ c, x = .bl c ∧ if c = true then Q (.bl true) H1 else tb σ H1 Q) : tOrV ta tb σ H Q := q
theorem i_notV (q : ta σ H fun x H1 => ∃ c, x = .bl c ∧ Q (.bl (!c)) H1) : tNotV ta σ H Q := q
theorem i_ifE (q : t σ H fun c H1 => if c = true then ta σ H1 Q else tb σ H1 Q) : tIf t ta tb σ H Q := q
theorem i_op {r : R2} (q : ta σ H fun x H1 => tb σ H1 fun y H2 => r x y H2 Q) : tOp r ta tb σ H Q := q
theorem i_un {r : V → Hp → VK → Prop} (q : ta σ H fun x H1 => r x H1 Q) : tUn r ta σ H Q := q
theorem i_neg {k : Int} (q : Q (.int (-k)) H) : rU (fun i => .int (-i)) (.int k) H Q := ⟨k, rfl, q⟩
theorem i_chain {r r' : R2} (q : ta σ H fun x H1 => tb σ H1 fun y H2 => r x y H2 fun z H3 => ∃ k, z = .bl k ∧ (if k = true then tc σ H3 fun w' H4 => r' y w' H4 Q else Q (.bl false) H3)) : tChain r r' ta tb tc σ H Q := q
theorem i_nil (q : QL [] H) : tNil σ H QL := q
theorem i_cons (q : te σ H fun x H1 => tl σ H1 fun xs H2 => QL (x :: xs) H2) : tCons te tl σ H QL := q
theorem i_call {sp : Sp} {E : XK} (q : tl σ H fun vs H1 => sp (vs ++ []) H1 Q E) : tCall sp [] E tl σ H Q := q
theorem i_callS {sp : Sp} {E : L2.St → XK} (q : tl σ H fun vs H1 => sp vs H1 Q (E σ)) : tCallS sp E tl σ H Q := q
theorem i_cb {r : RC} (q : tl σ H fun vs H1 => r vs H1 Q) : tCB r tl σ H Q := q
theorem i_tup (q : tl σ H fun xs H1 => xs.length ≤ sizeLine ∧ ∀ p, H1 p = none → Q (.ref p) (upd H1 p (.tup xs))) : tTup tl σ H Q := q
theorem i_lst (q : tl σ H fun xs H1 => xs.length ≤ sizeLine ∧ ∀ p, H1 p = none → Q (.ref p) (upd H1 p (.lst xs))) : tLst tl σ H Q := q
theorem i_new {n : Nat} {P : Addr → Prop} (h : n ≤ 100000) (q : ∀ p, H p = none → P p) : n ≤ sizeLine ∧ ∀ p, H p = none → P p := ⟨Nat.le_trans h (by decide), q⟩
theorem i_sl {r : RS} {t1 t2 : TO} (q : te σ H fun x H1 => t1 σ H1 fun l H2 => t2 σ H2 fun u H3 => r x l u H3 Q) : tSl r te t1 t2 σ H Q := q
theorem i_nopart {QO : Option Int → Hp → Prop} (q : QO none H) : tNoPart σ H QO := q
theorem i_part {QO : Option Int → Hp → Prop} (q : te σ H fun x H1 => ∃ i, x = .int i ∧ QO (some i) H1) : tPart te σ H QO := q
theorem i_exint {P : Int → Prop} {k : Int} (q : P k) : ∃ i, V.int k = .int i ∧ P i := ⟨k, rfl, q⟩
theorem i_dec {c : Prop} [Decidable c] {A B : Prop} (h1 : c → A) (h2 : ¬ c → B) : if decide c = true then A else B := by
  by_cases h : c
  · rw [decide_eq_true h, if_pos rfl]; exact h1 h
  · rw [decide_eq_false h, if_neg (by decide)]; exact h2 h
theorem i_decN {c : Prop} [Decidable c] {A B : Prop} (h1 : ¬ c → A) (h2 : c → B) : if (!decide c) = true then A else B := by
  by_cases h : c
  · rw [decide_eq_true h]; exact h2 h
  · rw [decide_eq_false h]; exact h1 h
theorem i_bool {b : Bool} {A B : Prop} (h1 : b = true → A) (h2 : b = false → B) : if b = true then A else B := by
  cases b with
  | true => exact h1 rfl
  | false => exact h2 rfl
theorem i_tt {A B : Prop} (h : A) : if true = true then A else B := h
theorem i_ff {A B : Prop} (h : B) : if false = true then A else B := h
theorem i_nott {A B : Prop} (h : B) : if (!true) = true then A else B := h
theorem i_notf {A B : Prop} (h : A) : if (!false) = true then A else B := h
/-! values -/
variable {a b : Int} {l m : List Nat}
theorem i_add_int (q : Q (.int (a + b)) H) : addP K (.int a) (.int b) H Q := .inl ⟨a, b, rfl, rfl, q⟩
theorem i_add_str (h : l.length + m.length ≤ 100000) (q : Q (S (l ++ m)) H) : addP K (S l) (S m) H Q := by
  refine .inr (.inl ⟨⟨l.toArray⟩, ⟨m.toArray⟩, rfl, rfl, ?_, ?_⟩)
  · rw [str_len, str_len]; exact Nat.le_trans h (by decide)
  · have e : (⟨l.toArray⟩ : Str) ++ ⟨m.toArray⟩ = ⟨(l ++ m).toArray⟩ := by
      show (⟨l.toArray ++ m.toArray⟩ : Str) = _
      rw [List.append_toArray]
    rw [e]; exact q
theorem i_sub (q : Q (.int (a - b)) H) : subP (.int a) (.int b) H Q := ⟨a, b, rfl, rfl, q⟩
theorem i_mul_int (h : IntMulOk a b) (q : Q (.int (a * b)) H) : mulP (.int a) (.int b) H Q := .inl ⟨a, b, rfl, rfl, h, q⟩
theorem i_mul_str {n : Nat} (h : l.length * n ≤ 100000 ∧ n ≤ 100000) (q : Q (S (List.replicate n l).flatten) H) : mulP (S l) (.int (n : Int)) H Q := .inr (.inl ⟨l, n, rfl, rfl, h.1, h.2, q⟩)
theorem i_mul_strI {k : Int} (h0 : 0 ≤ k) (h : l.length * k.toNat ≤ 100000 ∧ k.toNat ≤ 100000) (q : Q (S (List.replicate k.toNat l).flatten) H) : mulP (S l) (.int k) H Q := by
  obtain ⟨n, rfl⟩ : ∃ n : Nat, k = (n : Int) := ⟨k.toNat, by omega⟩
  rw [Int.toNat_natCast] at h q
  exact i_mul_str h q
theorem cdiv_small {a b : Int} (h : 0 < b) (h2 : b < 2 ^ 62) : CDivW a b := wide_div (b := 62) h (by omega) (by decide) (by decide)
theorem mul_small {a b : Int} (h : -(2 ^ 64) < a) (h2 : a < 2 ^ 64) : IntMulOk a b := CMul.ok (.inl ⟨h, h2⟩)
theorem mul_smallR {a b : Int} (h : -(2 ^ 64) < b) (h2 : b < 2 ^ 64) : IntMulOk a b := CMul.ok (.inr ⟨h, h2⟩)
theorem i_mod (h : 0 < b) (q : Q (.int (a % b)) H) : modP (.int a) (.int b) H Q := ⟨a, b, rfl, rfl, h, q⟩
theorem i_fdiv (h : CDivW a b) (q : Q (.int (a / b)) H) : fdivP (.int a) (.int b) H Q := ⟨a, b, rfl, rfl, h, q⟩
theorem i_pow (h : 0 ≤ b ∧ (Builtin.Int.intBits a : Int) * b ≤ 2 ^ 27) (q : Q (.int (a ^ b.toNat)) H) : powP (.int a) (.int b) H Q := ⟨a, b, rfl, rfl, h, q⟩
theorem i_eq_int (q : Q (.bl (decide (a = b))) H) : eqP K (.int a) (.int b) H Q := .inl ⟨rfl, by rw [dec_int, Bool.beq_eq_decide_eq]; exact q⟩
theorem i_eq_str (q : Q (.bl (decide (l = m))) H) : eqP K (S l) (S m) H Q := .inl ⟨rfl, by rw [S_dec]; exact q⟩
theorem i_ne_int (q : Q (.bl (!decide (a = b))) H) : neP K (.int a) (.int b) H Q := .inl ⟨rfl, by rw [dec_int, Bool.beq_eq_decide_eq]; exact q⟩
theorem i_ne_str (q : Q (.bl (!decide (l = m))) H) : neP K (S l) (S m) H Q := .inl ⟨rfl, by rw [S_dec]; exact q⟩
theorem i_eq_bl {b c : Bool} (q : Q (.bl (decide (b = c))) H) : eqP K (.bl b) (.bl c) H Q := .inl ⟨rfl, by rw [dec_bl, Bool.beq_eq_decide_eq]; exact q⟩
theorem i_ne_bl {b c : Bool} (q : Q (.bl (!decide (b = c))) H) : neP K (.bl b) (.bl c) H Q := .inl ⟨rfl, by rw [dec_bl, Bool.beq_eq_decide_eq]; exact q⟩
theorem i_lt (q : Q (.bl (decide (a < b))) H) : ltP (.int a) (.int b) H Q := .inl ⟨a, b, rfl, rfl, q⟩
theorem i_lt_str (q : Q (.bl (decide (l < m))) H) : ltP (S l) (S m) H Q := .inr ⟨_, _, rfl, rfl, by simpa using q⟩
theorem i_le (q : Q (.bl (decide (a ≤ b))) H) : leP (.int a) (.int b) H Q := ⟨a, b, rfl, rfl, q⟩
theorem i_gt (q : Q (.bl (decide (b < a))) H) : gtP (.int a) (.int b) H Q := ⟨a, b, rfl, rfl, q⟩
theorem i_ge (q : Q (.bl (decide (b ≤ a))) H) : geP (.int a) (.int b) H Q := ⟨a, b, rfl, rfl, q⟩
theorem i_is_non (q : Q (.bl true) H) : isP .non .non H Q := ⟨rfl, q⟩
theorem i_is_int (q : Q (.bl false) H) : isP (.int a) .non H Q := ⟨rfl, q⟩
theorem i_is_str (q : Q (.bl false) H) : isP (S l) .non H Q := ⟨rfl, q⟩
theorem i_is_ref {p : Addr} (q : Q (.bl false) H) : isP (.ref p) .non H Q := ⟨rfl, q⟩
theorem i_isn_non (q : Q (.bl false) H) : isNotP .non .non H Q := ⟨rfl, q⟩
theorem i_isn_int (q : Q (.bl true) H) : isNotP (.int a) .non H Q := ⟨rfl, q⟩
theorem i_isn_str (q : Q (.bl true) H) : isNotP (S l) .non H Q := ⟨rfl, q⟩
theorem i_isn_ref {p : Addr} (q : Q (.bl true) H) : isNotP (.ref p) .non H Q := ⟨rfl, q⟩
theorem i_in_sg {c : Nat} (q : Q (.bl (decide (c ∈ m))) H) : inP K (S [c]) (S m) H Q := .inl ⟨c, ⟨m.toArray⟩, rfl, rfl, by simpa using q⟩
theorem i_notIn_sg {c : Nat} (q : Q (.bl (!decide (c ∈ m))) H) : notInP K (S [c]) (S m) H Q := .inl ⟨c, ⟨m.toArray⟩, rfl, rfl, by simpa using q⟩
/-! subscripts -/
theorem atI_int {xs : List V} {z : Int} {v : V} (h0 : 0 ≤ z) (h : xs[z.toNat]? = some v) : atI xs z = some v := at_of (j := z.toNat) (by omega) h
theorem i_ix_lst {p : Addr} {xs : List V} {z : Int} {v : V} (hs : SqL K H p xs) (ha : atI xs z = some v) (q : Q v H) : ixP K (.ref p) (.int z) H Q := .inl ⟨p, xs, z, v, rfl, rfl, hs, ha, q⟩
theorem i_ix_tup {p : Addr} {xs : List V} {z : Int} {v : V} (hs : SqT K H p xs) (ha : atI xs z = some v) (q : Q v H) : ixP K (.ref p) (.int z) H Q := .inr (.inl ⟨p, xs, z, v, rfl, rfl, hs, ha, q⟩)
theorem i_ix_str {z : Int} {c : Nat} (hs : l.length ≤ 100000) (h0 : 0 ≤ z) (ha : l[z.toNat]? = some c) (q : Q (S [c]) H) : ixP K (S l) (.int z) H Q := by
  refine .inr (.inr ⟨⟨l.toArray⟩, z, c, rfl, rfl, ?_, ?_, q⟩)
  · rw [str_len]; exact Nat.le_trans hs (by decide)
  · have e : z = ((z.toNat : Nat) : Int) := by omega
    rw [e]
    exact atI_nat (by simpa using ha)
/-! slices -/
def cutN (l : List Nat) (lo hi : Option Int) : List Nat := (l.drop (HT.sIx l.length 0 lo)).take (HT.sIx l.length l.length hi - HT.sIx l.length 0 lo)
theorem i_sl_str {lo hi : Option Int} (hs : l.length ≤ 100000) (q : Q (S (cutN l lo hi)) H) : slP K (S l) lo hi H Q := by
  refine .inr (.inr ⟨⟨l.toArray⟩, rfl, ?_, ?_⟩)
  · rw [str_len]; exact Nat.le_trans hs (by decide)
  · have e : cutS ⟨l.toArray⟩ lo hi = ⟨(cutN l lo hi).toArray⟩ := by
      unfold cutS cutN
      rw [str_len]
    rw [e]; exact q
theorem cutN_to {l : List Nat} {k : Int} (h : 0 ≤ k) : cutN l none (some k) = l.take k.toNat := by
  unfold cutN
  have e : k = ((k.toNat : Nat) : Int) := by omega
  rw [e, HT.sIx_nat, HT.sIx_none, Nat.sub_zero, List.drop_zero, Int.toNat_natCast]
  by_cases hk : k.toNat ≤ l.length
  · rw [Nat.min_eq_left hk]
  · rw [Nat.min_eq_right (by omega), List.take_length, List.take_of_length_le (by omega)]
theorem cutN_from {l : List Nat} {k : Int} (h : 0 ≤ k) : cutN l (some k) none = l.drop k.toNat := by
  unfold cutN
  have e : k = ((k.toNat : Nat) : Int) := by omega
  rw [e, HT.sIx_nat, HT.sIx_none, Int.toNat_natCast]
  by_cases hk : k.toNat ≤ l.length
  · rw [Nat.min_eq_left hk]
    exact List.take_of_length_le (by rw [List.length_drop]; omega)
  · rw [Nat.min_eq_right (by omega), Nat.sub_self, List.take_zero, List.drop_of_length_le (by omega)]
theorem i_sl_to {k : Int} (hs : l.length ≤ 100000) (h0 : 0 ≤ k) (q : Q (S (l.take k.toNat)) H) : slP K (S l) none (some k) H Q := i_sl_str hs (by rw [cutN_to h0]; exact q)
theorem i_sl_from {k : Int} (hs : l.length ≤ 100000) (h0 : 0 ≤ k) (q : Q (S (l.drop k.toNat)) H) : slP K (S l) (some k) none H Q := i_sl_str hs (by rw [cutN_from h0]; exact q)
/-! calls of what is built in -/
def rLenP (K : PySem.W.Frag) : RC := fun xs H Q => ∃ x n, xs = [x] ∧ LenV K x H n ∧ Q (.int n) H
theorem call_lenP {X : Cx} : CallR X (.builtin "len") (rLenP X.K) := call_len
theorem i_len_str (hs : l.length ≤ 100000) (q : Q (.int (l.length : Int)) H) : rLenP K [S l] H Q := ⟨S l, l.length, rfl, ⟨by rw [str_len]; exact Nat.le_trans hs (by decide), (str_len l).symm⟩, q⟩
theorem i_len_lst {p : Addr} {xs : List V} (hs : SqL K H p xs) (q : Q (.int (xs.length : Int)) H) : rLenP K [.ref p] H Q := ⟨.ref p, xs.length, rfl, .inl ⟨xs, hs, rfl⟩, q⟩
theorem i_len_tup {p : Addr} {xs : List V} (hs : SqT K H p xs) (q : Q (.int (xs.length : Int)) H) : rLenP K [.ref p] H Q := ⟨.ref p, xs.length, rfl, .inr ⟨xs, hs, rfl⟩, q⟩
def rIntP : RC := fun xs H Q => (∃ i, xs = [.int i] ∧ Q (.int i) H) ∨ ∃ k, xs = [.bl k] ∧ Q (.int (if k then 1 else 0)) H
theorem call_intP {X : Cx} : CallR X (.type "int") rIntP := call_int1
theorem i_int_int (q : Q (.int a) H) : rIntP [.int a] H Q := .inl ⟨a, rfl, q⟩
def rAbsP : RC := fun xs H Q => ∃ i, xs = [.int i] ∧ Q (.int (if i < 0 then -i else i)) H
theorem call_absP {X : Cx} : CallR X (.builtin "abs") rAbsP := call_abs
theorem i_abs (q : Q (.int (if a < 0 then -a else a)) H) : rAbsP [.int a] H Q := ⟨a, rfl, q⟩
theorem i_sum {p : Addr} {ns : List Int} (hs : SqL K H p (ns.map V.int)) (q : Q (.int ns.sum) H) : rSum K [.ref p] H Q := ⟨p, ns, rfl, hs, q⟩
def rTupP (K : PySem.W.Frag) : RC := fun xs H Q => ∃ p ys, xs = [.ref p] ∧ ((SqL K H p ys ∧ ∀ l, H l = none → Q (.ref l) (upd H l (.tup ys))) ∨ (SqT K H p ys ∧ Q (.ref p) H))
theorem call_tupP {X : Cx} : CallR X (.type "tuple") (rTupP X.K) := call_tuple_of
theorem i_tuple_lst {p : Addr} {ys : List V} (hs : SqL K H p ys) (q : ∀ l, H l = none → Q (.ref l) (upd H l (.tup ys))) : rTupP K [.ref p] H Q := ⟨p, ys, rfl, .inl ⟨hs, q⟩⟩
theorem i_all {p : Addr} {bs : List Bool} (hs : SqL K H p (bs.map V.bl)) (q : Q (.bl (bs.all id)) H) : rAll K [.ref p] H Q := ⟨p, bs, rfl, hs, q⟩
theorem i_isi_non_int (q : Q (.bl false) H) : rIsi K [.non, .ty "int"] H Q := ⟨_, _, _, _, false, rfl, .ty _, .base .non, kit_ty (by decide +kernel), q⟩
theorem i_isi_non_bool (q : Q (.bl false) H) : rIsi K [.non, .ty "bool"] H Q := ⟨_, _, _, _, false, rfl, .ty _, .base .non, kit_ty (by decide +kernel), q⟩
theorem i_isi_non_str (q : Q (.bl false) H) : rIsi K [.non, .ty "str"] H Q := ⟨_, _, _, _, false, rfl, .ty _, .base .non, kit_ty (by decide +kernel), q⟩
theorem i_isi_non_tuple (q : Q (.bl false) H) : rIsi K [.non, .ty "tuple"] H Q := ⟨_, _, _, _, false, rfl, .ty _, .base .non, kit_ty (by decide +kernel), q⟩
theorem i_isi_non_list (q : Q (.bl false) H) : rIsi K [.non, .ty "list"] H Q := ⟨_, _, _, _, false, rfl, .ty _, .base .non, kit_ty (by decide +kernel), q⟩
theorem i_isi_bl_int {b : Bool} (q : Q (.bl true) H) : rIsi K [(.bl b), .ty "int"] H Q := ⟨_, _, _, _, true, rfl, .ty _, .base (.bl b), kit_ty (by decide +kernel), q⟩
theorem i_isi_bl_bool {b : Bool} (q : Q (.bl true) H) : rIsi K [(.bl b), .ty "bool"] H Q := ⟨_, _, _, _, true, rfl, .ty _, .base (.bl b), kit_ty (by decide +kernel), q⟩
theorem i_isi_bl_str {b : Bool} (q : Q (.bl false) H) : rIsi K [(.bl b), .ty "str"] H Q := ⟨_, _, _, _, false, rfl, .ty _, .base (.bl b), kit_ty (by decide +kernel), q⟩
theorem i_isi_bl_tuple {b : Bool} (q : Q (.bl false) H) : rIsi K [(.bl b), .ty "tuple"] H Q := ⟨_, _, _, _, false, rfl, .ty _, .base (.bl b), kit_ty (by decide +kernel), q⟩
theorem i_isi_bl_list {b : Bool} (q : Q (.bl false) H) : rIsi K [(.bl b), .ty "list"] H Q := ⟨_, _, _, _, false, rfl, .ty _, .base (.bl b), kit_ty (by decide +kernel), q⟩
theorem i_isi_int_int {i : Int} (q : Q (.bl true) H) : rIsi K [(.int i), .ty "int"] H Q := ⟨_, _, _, _, true, rfl, .ty _, .base (.int i), kit_ty (by decide +kernel), q⟩
theorem i_isi_int_bool {i : Int} (q : Q (.bl false) H) : rIsi K [(.int i), .ty "bool"] H Q := ⟨_, _, _, _, false, rfl, .ty _, .base (.int i), kit_ty (by decide +kernel), q⟩
theorem i_isi_int_str {i : Int} (q : Q (.bl false) H) : rIsi K [(.int i), .ty "str"] H Q := ⟨_, _, _, _, false, rfl, .ty _, .base (.int i), kit_ty (by decide +kernel), q⟩
theorem i_isi_int_tuple {i : Int} (q : Q (.bl false) H) : rIsi K [(.int i), .ty "tuple"] H Q := ⟨_, _, _, _, false, rfl, .ty _, .base (.int i), kit_ty (by decide +kernel), q⟩
theorem i_isi_int_list {i : Int} (q : Q (.bl false) H) : rIsi K [(.int i), .ty "list"] H Q := ⟨_, _, _, _, false, rfl, .ty _, .base (.int i), kit_ty (by decide +kernel), q⟩
theorem i_isi_str_int {l : List Nat} (q : Q (.bl false) H) : rIsi K [(S l), .ty "int"] H Q := ⟨_, _, _, _, false, rfl, .ty _, .base (.str _), kit_ty (by decide +kernel), q⟩
theorem i_isi_str_bool {l : List Nat} (q : Q (.bl false) H) : rIsi K [(S l), .ty "bool"] H Q := ⟨_, _, _, _, false, rfl, .ty _, .base (.str _), kit_ty (by decide +kernel), q⟩
theorem i_isi_str_str {l : List Nat} (q : Q (.bl true) H) : rIsi K [(S l), .ty "str"] H Q := ⟨_, _, _, _, true, rfl, .ty _, .base (.str _), kit_ty (by decide +kernel), q⟩
theorem i_isi_str_tuple {l : List Nat} (q : Q (.bl false) H) : rIsi K [(S l), .ty "tuple"] H Q := ⟨_, _, _, _, false, rfl, .ty _, .base (.str _), kit_ty (by decide +kernel), q⟩
theorem i_isi_str_list {l : List Nat} (q : Q (.bl false) H) : rIsi K [(S l), .ty "list"] H Q := ⟨_, _, _, _, false, rfl, .ty _, .base (.str _), kit_ty (by decide +kernel), q⟩
theorem i_isi_tup_int {a : Addr} {xs : List V} (h : H a = some (.tup xs)) (q : Q (.bl false) H) : rIsi K [(.ref a), .ty "int"] H Q := ⟨_, _, _, _, false, rfl, .ty _, .base (.tup h), kit_ty (by decide +kernel), q⟩
theorem i_isi_tup_bool {a : Addr} {xs : List V} (h : H a = some (.tup xs)) (q : Q (.bl false) H) : rIsi K [(.ref a), .ty "bool"] H Q := ⟨_, _, _, _, false, rfl, .ty _, .base (.tup h), kit_ty (by decide +kernel), q⟩
theorem i_isi_tup_str {a : Addr} {xs : List V} (h : H a = some (.tup xs)) (q : Q (.bl false) H) : rIsi K [(.ref a), .ty "str"] H Q := ⟨_, _, _, _, false, rfl, .ty _, .base (.tup h), kit_ty (by decide +kernel), q⟩
theorem i_isi_tup_tuple {a : Addr} {xs : List V} (h : H a = some (.tup xs)) (q : Q (.bl true) H) : rIsi K [(.ref a), .ty "tuple"] H Q := ⟨_, _, _, _, true, rfl, .ty _, .base (.tup h), kit_ty (by decide +kernel), q⟩
theorem i_isi_tup_list {a : Addr} {xs : List V} (h : H a = some (.tup xs)) (q : Q (.bl false) H) : rIsi K [(.ref a), .ty "list"] H Q := ⟨_, _, _, _, false, rfl, .ty _, .base (.tup h), kit_ty (by decide +kernel), q⟩
theorem i_isi_lst_int {a : Addr} {xs : List V} (h : H a = some (.lst xs)) (q : Q (.bl false) H) : rIsi K [(.ref a), .ty "int"] H Q := ⟨_, _, _, _, false, rfl, .ty _, .base (.lst h), kit_ty (by decide +kernel), q⟩
theorem i_isi_lst_bool {a : Addr} {xs : List V} (h : H a = some (.lst xs)) (q : Q (.bl false) H) : rIsi K [(.ref a), .ty "bool"] H Q := ⟨_, _, _, _, false, rfl, .ty _, .base (.lst h), kit_ty (by decide +kernel), q⟩
theorem i_isi_lst_str {a : Addr} {xs : List V} (h : H a = some (.lst xs)) (q : Q (.bl false) H) : rIsi K [(.ref a), .ty "str"] H Q := ⟨_, _, _, _, false, rfl, .ty _, .base (.lst h), kit_ty (by decide +kernel), q⟩
theorem i_isi_lst_tuple {a : Addr} {xs : List V} (h : H a = some (.lst xs)) (q : Q (.bl false) H) : rIsi K [(.ref a), .ty "tuple"] H Q := ⟨_, _, _, _, false, rfl, .ty _, .base (.lst h), kit_ty (by decide +kernel), q⟩
theorem i_isi_lst_list {a : Addr} {xs : List V} (h : H a = some (.lst xs)) (q : Q (.bl true) H) : rIsi K [(.ref a), .ty "list"] H Q := ⟨_, _, _, _, true, rfl, .ty _, .base (.lst h), kit_ty (by decide +kernel), q⟩
/-! text.join -/
def rJoinP (K : PySem.W.Frag) : V → List V → Hp → VK → Prop := fun x xs H Q => ∃ a p, ∃ ys : List Str, x = .str a ∧ xs = [.ref p] ∧ (SqL K H p (ys.map V.str) ∨ SqT K H p (ys.map V.str)) ∧ (ys.map (·.length)).sum + ys.length * a.length ≤ 16777216 ∧ Q (.str (Txt.join a ys)) H
theorem pe_joinP {X : Cx} {to te : TE} {o e : Expr} {apos pos : Pos} (ho : PE X o to) (he : PE X e te) (hs : starEach [e] X.env = [(false, eval e X.env)] := by rfl) (hbase : attributeBase o "join" X.env (eval o X.env) = eval o X.env := by rfl) (hline : (apos.endLine == pos.line) = true := by rfl) :
    PE X (.Call (.Attribute o "join" apos) [e] [] pos) (tM1 (rJoinP X.K) to te) := pe_join ho he hs hbase hline
theorem i_m1c {r : V → List V → Hp → VK → Prop} (q : te σ H fun y H2 => r (S l) [y] H2 Q) : tM1 r (tC (S l)) te σ H Q := ⟨⟨_, rfl⟩, q⟩
end
end Fg
/-! Glue: defs of the text with their promises, calls, own exceptions with one field. -/
namespace Fg
open PySem PySem.Spec PyProof.Rows L2
/-- a def of the text: where it stands, how it is called -/
def DefIn (K : PySem.W.Frag) (mg : Str → Option Value) (x : Str) (st : Stmt) (ps : List Str) : Prop :=
  ∃ (f : Addr) (fd : FuncData), Fun K x x st f fd ∧ mg x = some (.ref f) ∧ Binds K fd ps []
/-- .. and it keeps its promise -/
def OK (P : Program) (w : World) (K : PySem.W.Frag) (mg : Str → Option Value) (base : Heap) (CX : CXT) (k : Nat) (x : Str) (ps : List Str) (sp : Sp) : Prop :=
  ∃ (f : Addr) (fd : FuncData), FnOk P w K mg base CX k f fd ps sp ∧ mg x = some (.ref f) ∧ PySem.W.keepIn K (.ref f) = true ∧ Binds K fd ps []
abbrev P1 := V → Hp → VK → XK → Prop
abbrev P2 := V → V → Hp → VK → XK → Prop
abbrev P3 := V → V → V → Hp → VK → XK → Prop
abbrev P4 := V → V → V → V → Hp → VK → XK → Prop
def sp1 (p : P1) : Sp := fun vs H Q E => ∃ x, vs = [x] ∧ p x H Q E
def sp2 (p : P2) : Sp := fun vs H Q E => ∃ x y, vs = [x, y] ∧ p x y H Q E
def sp3 (p : P3) : Sp := fun vs H Q E => ∃ x y z, vs = [x, y, z] ∧ p x y z H Q E
def sp4 (p : P4) : Sp := fun vs H Q E => ∃ x y z u, vs = [x, y, z, u] ∧ p x y z u H Q E
section
variable {H : Hp} {Q : VK} {E : XK} {x y z u : V} {p1 : P1} {p2 : P2} {p3 : P3} {p4 : P4}
theorem i_sp1 (q : p1 x H Q E) : sp1 p1 ([x] ++ []) H Q E := ⟨x, rfl, q⟩
theorem i_sp2 (q : p2 x y H Q E) : sp2 p2 ([x, y] ++ []) H Q E := ⟨x, y, rfl, q⟩
theorem i_sp3 (q : p3 x y z H Q E) : sp3 p3 ([x, y, z] ++ []) H Q E := ⟨x, y, z, rfl, q⟩
theorem i_sp4 (q : p4 x y z u H Q E) : sp4 p4 ([x, y, z, u] ++ []) H Q E := ⟨x, y, z, u, rfl, q⟩
theorem i_sp1' (q : p1 x H Q E) : sp1 p1 [x] H Q E := ⟨x, rfl, q⟩
theorem i_sp2' (q : p2 x y H Q E) : sp2 p2 [x, y] H Q E := ⟨x, y, rfl, q⟩
theorem i_sp3' (q : p3 x y z H Q E) : sp3 p3 [x, y, z] H Q E := ⟨x, y, z, rfl, q⟩
theorem i_sp4' (q : p4 x y z u H Q E) : sp4 p4 [x, y, z, u] H Q E := ⟨x, y, z, u, rfl, q⟩
end
section
variable {P : Program} {w : World} {K : PySem.W.Frag} {mg : Str → Option Value} {base : Heap} {x : Str} {st : Stmt} {N ps : List Str} {k : Nat} {sp : Sp}
theorem FnOK.mk {f : Addr} {fd : FuncData} (F : Fun K x x st f fd) (S : FnScope N ps (defScope st)) (len : ∀ vs H Q E, sp vs H Q E → vs.length = ps.length)
    (body : ∀ (cdv : Value) (A : Around) (outer : List Env) (s : Shared) (H : Hp) (vs : List V) (Q : VK) (E : XK), Room k (A.deeper (envOfC x (defScope st) s.heap.objs.size f cdv)) → sp vs H Q E →
      ∃ t, PSs (cxOf CX0 P w K mg base N x (defScope st) f cdv A outer s H E).nox (defBody st) t ∧ t { nx := fun _ H' => Q .non H', rt := Q } (start N vs) H) : FnOk P w K mg base CX0 (k + 1) f fd ps sp :=
  F.ok S len fun cdv A outer s H vs Q E hr h => body cdv A outer s H vs Q E hr h
theorem OK.mk (D : DefIn K mg x st ps) (S : FnScope N ps (defScope st)) (len : ∀ vs H Q E, sp vs H Q E → vs.length = ps.length)
    (body : ∀ (f : Addr) (cdv : Value) (A : Around) (outer : List Env) (s : Shared) (H : Hp) (vs : List V) (Q : VK) (E : XK), Room k (A.deeper (envOfC x (defScope st) s.heap.objs.size f cdv)) → sp vs H Q E →
      ∃ t, PSs (cxOf CX0 P w K mg base N x (defScope st) f cdv A outer s H E).nox (defBody st) t ∧ t { nx := fun _ H' => Q .non H', rt := Q } (start N vs) H) : OK P w K mg base CX0 (k + 1) x ps sp := by
  obtain ⟨f, fd, F, hm, hb⟩ := D
  exact ⟨f, fd, F.ok S len fun cdv A outer s H vs Q E hr h => body f cdv A outer s H vs Q E hr h, hm, F.kp, hb⟩
theorem OK.mkX (D : DefIn K mg x st ps) (S : FnScope N ps (defScope st)) (len : ∀ vs H Q E, sp vs H Q E → vs.length = ps.length)
    (body : ∀ (f : Addr) (cdv : Value) (A : Around) (outer : List Env) (s : Shared) (H : Hp) (vs : List V) (Q : VK) (E : XK), Room k (A.deeper (envOfC x (defScope st) s.heap.objs.size f cdv)) → sp vs H Q E →
      ∃ t, PSs (cxOf (L2.CX P w) P w K mg base N x (defScope st) f cdv A outer s H E) (defBody st) t ∧ t { nx := fun _ H' => Q .non H', rt := Q } (start N vs) H) : OK P w K mg base (L2.CX P w) (k + 1) x ps sp := by
  obtain ⟨f, fd, F, hm, hb⟩ := D
  exact ⟨f, fd, F.okX S len fun cdv A outer s H vs Q E hr h => body f cdv A outer s H vs Q E hr h, hm, F.kp, hb⟩
theorem len1 {p : P1} {a : Str} : ∀ vs H Q E, sp1 p vs H Q E → vs.length = [a].length := by
  rintro vs H Q E ⟨_, rfl, _⟩; rfl
theorem len2 {p : P2} {a b : Str} : ∀ vs H Q E, sp2 p vs H Q E → vs.length = [a, b].length := by
  rintro vs H Q E ⟨_, _, rfl, _⟩; rfl
theorem len3 {p : P3} {a b c : Str} : ∀ vs H Q E, sp3 p vs H Q E → vs.length = [a, b, c].length := by
  rintro vs H Q E ⟨_, _, _, rfl, _⟩; rfl
theorem len4 {p : P4} {a b c d : Str} : ∀ vs H Q E, sp4 p vs H Q E → vs.length = [a, b, c, d].length := by
  rintro vs H Q E ⟨_, _, _, _, rfl, _⟩; rfl
theorem OK.weak {CX : CXT} {sp' : Sp} (G : OK P w K mg base CX k x ps sp) (h : ∀ vs H Q E, sp' vs H Q E → sp vs H Q E) : OK P w K mg base CX k x ps sp' := by
  obtain ⟨f, fd, F, r⟩ := G
  exact ⟨f, fd, F.imp h, r⟩
end
/-! ### calls -/
section
variable {X : Cx} {CX : CXT} {k : Nat} {x : Str} {ps : List Str} {sp : Sp} {E : XK} {e : Expr} {es : List Expr} {ta : TA} {p pos : Pos}
theorem pe_f (G : OK X.prog X.w X.K X.mg X.base CX k x ps sp) (hr : Room k X.A) (hx : Passes CX X E) (ha : PA X (e :: es) ta) (hg : Gl X x := by rfl) (hd : (x == ("__debug__" : Str)) = false := by decide)
    (he : starEach (e :: es) X.env = (false, eval e X.env) :: starEach es X.env := by rfl) (hpl : (backTo pos (starEach es X.env)).any (·.1) = false := by rfl) :
    PE X (.Call (.Name x p) (e :: es) [] pos) (tCall sp [] E ta) := by
  obtain ⟨f, fd, F, hm, hk, hb⟩ := G
  exact pe_call F hr hg hm hk hb .nil hx ha hd he hpl
theorem pe_fS {ES : L2.St → XK} (G : OK X.prog X.w X.K X.mg X.base CX k x ps sp) (hr : Room k X.A) (hx : ∀ σ, PassesAt CX X σ (ES σ)) (ha : PA X (e :: es) ta) (hg : Gl X x := by rfl) (hd : (x == ("__debug__" : Str)) = false := by decide)
    (he : starEach (e :: es) X.env = (false, eval e X.env) :: starEach es X.env := by rfl) (hpl : (backTo pos (starEach es X.env)).any (·.1) = false := by rfl) :
    PE X (.Call (.Name x p) (e :: es) [] pos) (tCallS sp ES ta) := by
  obtain ⟨f, fd, F, hm, hk, hb⟩ := G
  exact pe_callS F hr hg hm hk hb hx ha hd he hpl
theorem pe_gS (l : List Nat) (h : ∃ t, X.mg x = some (.str ⟨l.toArray⟩ t)) (hg : Gl X x := by rfl) (hd : (x == ("__debug__" : Str)) = false := by decide) : PE X (.Name x pos) (tC (S l)) := by
  obtain ⟨t, hm⟩ := h
  exact pe_glob hg hm ⟨t, rfl⟩ hd
theorem pe_gI (i : Int) (h : ∃ t, X.mg x = some (.int i t)) (hg : Gl X x := by rfl) (hd : (x == ("__debug__" : Str)) = false := by decide) : PE X (.Name x pos) (tC (.int i)) := by
  obtain ⟨t, hm⟩ := h
  exact pe_glob hg hm ⟨t, rfl⟩ hd
theorem pe_gR (C : Addr) (h : X.mg x = some (.ref C)) (hg : Gl X x := by rfl) (hd : (x == ("__debug__" : Str)) = false := by decide) : PE X (.Name x pos) (tC (.ref C)) := pe_glob hg h rfl hd
end
/-! ### an own exception with one field -/
/-- what its __init__ promises -/
def spIni (C : Addr) (f : Str) : Sp := sp2 fun x v H Q _ => ∃ a, x = .ref a ∧ H a = some (exo a C none) ∧ ∀ dx, H dx = none → dx ≠ a → Q .non (upd (upd H dx (exd dx [(f, v)])) a (exo a C (some dx)))
def OKx (P : Program) (w : World) (K : PySem.W.Frag) (mg : Str → Option Value) (base : Heap) (x f : Str) (C : Addr) : Prop :=
  mg x = some (.ref C) ∧ OexC K C ∧ PySem.W.findIn K (.ref C) f = some none ∧ ∃ (fI : Addr) (fd : FuncData), PySem.W.findIn K (.ref C) "__init__" = some (some (.ref fI)) ∧ PySem.W.typeIn K (.ref fI) = some (.type "function") ∧
    FnOk P w K mg base CX0 1 fI fd ["self", f] (spIni C f) ∧ Binds K fd ["self", f] []
theorem ini_ok {P : Program} {w : World} {K : PySem.W.Frag} {mg : Str → Option Value} {base : Heap} {C fI : Addr} {f q : Str} {st : Stmt} {fd : FuncData} (F : Fun K "__init__" q st fI fd) (S : FnScope ["self", f] ["self", f] (defScope st))
    (ox : OexC K C) (noF : PySem.W.findIn K (.ref C) f = some none)
    (hb : ∀ (cdv : Value) (A : Around) (outer : List Env) (s : Shared) (H : Hp) (E : XK), PSs (cxOf CX0 P w K mg base ["self", f] q (defScope st) fI cdv A outer s H E).nox (defBody st) (tOst K f (tVar 0) (tVar 1))) :
    FnOk P w K mg base CX0 1 fI fd ["self", f] (spIni C f) := by
  refine F.ok S (fun vs H Q E h => len2 vs H Q E h) fun cdv A outer s H vs Q E hr h => ⟨_, hb cdv A outer s H E, ?_⟩
  obtain ⟨x, v, rfl, a, rfl, ha, q⟩ := h
  exact ⟨v, rfl, .ref a, rfl, a, C, rfl, ox, noF, .inl ⟨ha, fun dx n ne => q dx n ne⟩⟩
/-- C(e): an error whose dict, new, holds the field -/
def tMkE (C : Addr) (f : Str) (ta : TA) : L2.St → Hp → XK → Prop := fun σ H Q => ta σ H fun vs H1 => ∃ v, vs = [v] ∧ ∀ d, H1 d = none → Q (.ref C) (some d) (upd H1 d (.xd [(f, v)]))
theorem pa_mono {X : Cx} {es : List Expr} {ta : TA} (ha : PA X es ta) : PA X es fun σ H R => ∃ Q1 : List V → Hp → Prop, ta σ H Q1 ∧ ∀ vs H1, Q1 vs H1 → R vs H1 := by
  refine ⟨fun pos pins s σ H Q I h => ?_⟩
  obtain ⟨Q1, h, hi⟩ := h
  exact thn (ha.run pos pins s σ H Q1 I h) fun us s1 ⟨vs, H1, J, r, q⟩ => ⟨vs, H1, J, r, hi vs H1 q⟩
theorem pmk_E {X : Cx} {x f : Str} {C : Addr} {e : Expr} {ta : TA} {p pos : Pos} {k : Nat} (G : OKx X.prog X.w X.K X.mg X.base x f C) (hr : Room (k + 2) X.A) (ha : PA X [e] ta) (hg : Gl X x := by rfl) (hdb : (x == ("__debug__" : Str)) = false := by decide)
    (he : starEach [e] X.env = (false, eval e X.env) :: starEach [] X.env := by rfl) (hpl : (backTo pos (starEach [] X.env)).any (·.1) = false := by rfl) :
    PMk X (.Call (.Name x p) [e] [] pos) (tMkE C f ta) := by
  obtain ⟨hm, ox, noF, fI, fd, iC, tI, F, hb⟩ := G
  intro pins s σ H Q I h
  refine pmk_oex (k := 1) (dvs := []) ox iC tI F (hr.mono (by omega)) hb .nil pass0 hg hm (pa_mono ha) hdb he hpl pins s σ H Q I ⟨_, h, fun vs H1 hq => ?_⟩
  obtain ⟨v, rfl, q⟩ := hq
  refine ⟨by show 1 ≤ 1000; omega, fun a na => ⟨.ref a, v, rfl, a, rfl, upd_same, fun dx nd ne => ⟨rfl, dx, [(f, v)], upd_same, ?_, ?_, ?_⟩⟩⟩
  · rw [upd_ne ne, upd_same]
  · rw [upd_ne ne] at nd; exact nd
  · have n2 : H1 dx = none := by rw [upd_ne ne] at nd; exact nd
    have e1 : upd (del (upd (upd (upd H1 a (exo a C none)) dx (exd dx [(f, v)])) a (exo a C (some dx))) a) dx (.xd [(f, v)]) = upd H1 dx (.xd [(f, v)]) := by
      funext b
      by_cases hb : b = dx
      · rw [hb, upd_same, upd_same]
      · rw [upd_ne hb, upd_ne hb]
        by_cases ha : b = a
        · rw [ha, del_same, na]
        · rw [del_ne ha, upd_ne ha, upd_ne hb, upd_ne ha]
    rw [e1]
    exact q dx n2
def tRaiseP (t : L2.St → Hp → XK → Prop) (W : WX) : TS := fun _ σ H => t σ H fun cls d H' => W cls d σ H'
theorem ps_raiseP {X : Cx} {W : WX} {e : Expr} {t : L2.St → Hp → XK → Prop} {pos : Pos} (hc : X.calm = true) (tk : Takes X W) (he : PMk X e t) : PS X (.Raise (some e) none pos) (tRaiseP t W) := ps_raise hc tk he
/-! ### isinstance(e, C) of a caught error, e.f -/
/-- the class of a caught error, for isinstance -/
structure ExcD (K : PySem.W.Frag) (D : Addr) : Prop where
  cl : (PySem.W.clsIn K D).isSome = true
  hg : PySem.W.findIn K (.ref D) "__getattribute__" = some (some (.builtin "BaseException.__getattribute__"))
  hk : PySem.W.findIn K (.ref D) "__getattr__" = some none
  hs : PySem.W.subIn K (.ref D) (.type "BaseException") = some true
  hd : PySem.W.hasDictIn K D = true
  ha : PySem.W.findIn K (.ref D) "__class__" = some (some (.builtin "object.__class__"))
  hn : PySem.W.specialIn K (.builtin "object.__class__") "__get__" = some (some (.builtin "getset_descriptor.__get__"))
  ht : PySem.W.takesIn K (.builtin "object.__class__") = some true
  hm : PySem.W.mroIn K D (.type "object") = some true
theorem ExcD.xf {K : PySem.W.Frag} {D : Addr} (T : ExcD K D) : XfC K D := ⟨T.hg, T.hk, T.hs, T.hd⟩
def rIsX (K : PySem.W.Frag) (a : Addr) (cls : Value) (d : Option Addr) : RC := fun xs H Q => ∃ (D dd : Addr) (fs : List (Str × V)) (c : V) (cv : Value) (b : Bool),
  xs = [.ref a, c] ∧ cls = .ref D ∧ d = some dd ∧ H dd = some (.xd fs) ∧ ExcD K D ∧ ClsV c cv ∧ PySem.W.kitOne K (.ref D) cv = some b ∧ Q (.bl b) H
theorem call_isX {X : Cx} {a : Addr} {oe : Obj} {cls : Value} {d : Option Addr} {pn : List (Addr × Obj)} (hz : Zc cls d oe) (hf : ∃ vs, oe.data = .fields vs) : CallR (X.suite a ((a, oe) :: pn)) (.builtin "isinstance") (rIsX X.K a cls d) := by
  intro pins s σ H xs us Q I r h
  obtain ⟨D, dd, fs, c, cv, b, rfl, rfl, rfl, hdd, T, kc, e, q⟩ := h
  obtain ⟨u1, u2, rfl, r1, r2⟩ := vals2 r
  obtain rfl : u1 = Value.ref a := r1
  obtain rfl := kc.eq r2
  obtain ⟨hget, _⟩ := I.pin (a, oe) (List.mem_append_left _ List.mem_cons_self)
  obtain ⟨vs, hv⟩ := hf
  have hx : ObjOk X.prog X.w H s.heap dd (.xd fs) := I.hok dd _ hdd
  obtain ⟨mA, ⟨o, es, ep, ho, _⟩, _⟩ := hx
  have J : PySem.W.InstAt s.heap a oe D (some o) := ⟨hget, hz.1, by unfold PySem.W.notCls; rw [hv] <;> rfl, by rw [hz.2]; exact ho⟩
  exact PySem.W.kia_one (PySem.W.kitx_exc T.cl T.hg T.hk T.hs T.ha T.hn T.ht T.hm) I.kIn J e (fun z => nomatch z) fun tk => ⟨.bl b, H, I.tok tk, rfl, q⟩
section
variable {σ : L2.St} {H : Hp} {D : Ends} {t : L2.St → Hp → XK → Prop} {W : WX} {Q : XK} {C : Addr} {f : Str} {ta : TA} {v : V} {P : V → Prop}
theorem i_raise (q : t σ H fun cls d H' => W cls d σ H') : tRaiseP t W D σ H := q
theorem i_mkE (q : ta σ H fun vs H1 => ∃ v, vs = [v] ∧ ∀ d, H1 d = none → Q (.ref C) (some d) (upd H1 d (.xd [(f, v)]))) : tMkE C f ta σ H Q := q
theorem i_ex1 (q : P v) : ∃ u, [v] = [u] ∧ P u := ⟨v, rfl, q⟩
end
/-- the wish for an error of the class at C whose dict, new, holds f = v -/
def Rz (E : XK) (H : Hp) (C : Addr) (f : Str) (v : V) : Prop := ∀ d H', H d = none → Same H H' → H' d = some (.xd [(f, v)]) → E (.ref C) (some d) H'
theorem Rz.mono {E : XK} {H H1 : Hp} {C : Addr} {f : Str} {v : V} (h : Rz E H C f v) (s : Same H H1) : Rz E H1 C f v := fun d H' n s' e => h d H' (s.free n) (s.trans s') e
theorem Rz.at {E : XK} {H : Hp} {C : Addr} {f : Str} {v : V} (h : Rz E H C f v) {d : Addr} (n : H d = none) : E (.ref C) (some d) (upd H d (.xd [(f, v)])) :=
  h d _ n (fun b o e => by rw [upd_ne (ne_of_none e n)]; exact e) upd_same
/-! ### min of some texts -/
def rMinS (K : PySem.W.Frag) : RC := fun vs H Q => ∃ (a : Addr) (xs : List (List Nat)), vs = [V.ref a] ∧ SqL K H a (xs.map S) ∧ xs ≠ [] ∧ ∀ m, m ∈ xs → (∀ y ∈ xs, ¬ y < m) → Q (S m) H
theorem argBest_min (val : Nat → List Nat) : ∀ k, argBest (fun i j => decide (val i < val j)) k ≤ k ∧ ∀ j, j ≤ k → ¬ val j < val (argBest (fun i j => decide (val i < val j)) k)
  | 0 => ⟨Nat.le_refl _, fun j hj => by
    have : j = 0 := by omega
    subst this
    exact List.lt_irrefl _⟩
  | k + 1 => by
    obtain ⟨h1, h2⟩ := argBest_min val k
    unfold argBest
    by_cases h : val (k + 1) < val (argBest (fun i j => decide (val i < val j)) k)
    · rw [if_pos (decide_eq_true h)]
      refine ⟨Nat.le_refl _, fun j hj => ?_⟩
      by_cases e : j = k + 1
      · subst e; exact List.lt_irrefl _
      · exact fun z => h2 j (by omega) (List.lt_trans z h)
    · rw [if_neg (by simpa using h)]
      refine ⟨by omega, fun j hj => ?_⟩
      by_cases e : j = k + 1
      · subst e; exact h
      · exact h2 j (by omega)
theorem cmp_strs {prog : Program} {w : World} {A : Around} {P : Nat → Value → Prop} (val : Nat → List Nat) (hval : ∀ i v, P i v → ∃ t, v = .str ⟨(val i).toArray⟩ t) : CmpOf prog w A .Lt P (fun i j => decide (val i < val j)) := fun i j vi vj s Q E hi hj h => by
  obtain ⟨t, rfl⟩ := hval i vi hi
  obtain ⟨u, rfl⟩ := hval j vj hj
  refine richCompare_gives (op := .Lt) (typeIs_str s _ t) (typeIs_str s _ u) F.slot_str_lt F.entry_str_lt (F.args_str_lt_2 _ _) (gives_str_lt _ _ t u) (fun x => nomatch x) ?_
  show Q (Value.bool (decide ((val i).toArray.toList < (val j).toArray.toList))) s
  simpa using h
theorem cr_minS {X : Cx} (hc : X.calm = true) : CallR X (.builtin "min") (rMinS X.K) := by
  intro pins s σ H vs us Q I r h
  obtain ⟨a, xs, rfl, hs, hne, q⟩ := h
  obtain ⟨its, rv, hl, _⟩ := I.list hs
  rw [Vals.ref1 r]
  have hlen : xs.length = its.length := by have := rv.length; rw [List.length_map] at this; exact this
  have hpos : 0 < its.length := by rw [← hlen]; exact List.length_pos_iff.mpr hne
  have hL := hl.isList
  have ha : a < s.heap.objs.size := by obtain ⟨_, e, _⟩ := id hL; exact Heap.lt_size e
  have hval : ∀ (i : Nat) (v : Value), its.toArray[i]? = some v → ∃ t, v = Value.str ⟨(xs.getD i []).toArray⟩ t := fun i v hv => by
    have hv' : its[i]? = some v := by simpa using hv
    have hi : i < xs.length := by rw [hlen]; exact (List.getElem?_eq_some_iff.mp hv').1
    obtain ⟨u, hu, ru⟩ := rv.get (i := i) (x := S (xs.getD i [])) (by rw [List.getElem?_map, List.getElem?_eq_getElem hi, List.getD_eq_getElem?_getD, List.getElem?_eq_getElem hi]; rfl)
    rw [hv'] at hu
    cases hu
    exact ru
  refine call_min_walk (wpAny_pyIter_list hL ?_)
  refine ⟨_, _, _, _, _, _, _, rfl, Walks.list (A := X.A.in1) (I.ok.hd hc) s.heap.objs.size a (Nat.ne_of_lt ha) its.toArray,
    ⟨⟨_, Heap.get?_push_size _ rfl, rfl, rfl⟩, hL.push _⟩, fun b hb => ?_, by simpa using hpos, cmp_strs (fun i => xs.getD i []) hval, fun v h' tk hP hk => ?_⟩
  · show b < (s.heap.push _).objs.size
    rw [Heap.size_push]
    rcases List.mem_cons.mp hb with e | hb
    · rw [e]; exact Nat.lt_succ_self _
    · rw [List.mem_singleton.mp hb]; exact Nat.lt_succ_of_lt ha
  · obtain ⟨t, rfl⟩ := hval _ v hP
    obtain ⟨b1, b2⟩ := argBest_min (fun i => xs.getD i []) (its.toArray.size - 1)
    have sz : its.toArray.size = xs.length := by simp [hlen]
    have hb : argBest (fun i j => decide (xs.getD i [] < xs.getD j [])) (its.toArray.size - 1) < xs.length := by omega
    refine ⟨S (xs.getD _ []), H, I.kept (t' := tk) fun b u e => hk b u (fun hm => ?_) (Heap.get?_push_of_some _ e), ⟨t, rfl⟩, q _ ?_ fun y hy => ?_⟩
    · have e1 : b = s.heap.objs.size := List.mem_singleton.mp hm
      have e2 := Heap.lt_size e
      rw [e1] at e2
      exact absurd e2 (Nat.lt_irrefl _)
    · rw [List.getD_eq_getElem?_getD, List.getElem?_eq_getElem hb]
      exact List.getElem_mem hb
    · obtain ⟨i, hi, e⟩ := List.mem_iff_getElem.mp hy
      have e2 : xs.getD i [] = y := by rw [List.getD_eq_getElem?_getD, List.getElem?_eq_getElem hi, ← e]; rfl
      rw [← e2]
      exact b2 i (by omega)
theorem i_minS {K : PySem.W.Frag} {H : Hp} {Q : VK} {a : Addr} {xs : List (List Nat)} (hs : SqL K H a (xs.map S)) (hne : xs ≠ []) (q : ∀ m, m ∈ xs → (∀ y ∈ xs, ¬ y < m) → Q (S m) H) : rMinS K [.ref a] H Q := ⟨a, xs, rfl, hs, hne, q⟩
/-! ### the rules, the written part named -/
section
variable {X : Cx} (K : PySem.W.Frag) {e o : Expr} {es : List Expr} {te to : TE} {ta : TA} {tg : Expr} {p pos apos cpos tpos : Pos} {elts : List Expr} {kk : Nat}
theorem opAdd (h : X.K = K := by rfl) : OpR X (binaryOp .Add) (addP K) := h ▸ op_addP
theorem opEq (hu : X.A.units + 64 < cLine) (h : X.K = K := by rfl) : OpR X (compareOp .Eq) (eqP K) := h ▸ op_eqP hu
theorem opNe (hu : X.A.units + 64 < cLine) (h : X.K = K := by rfl) : OpR X (compareOp .NotEq) (neP K) := h ▸ op_neP hu
theorem opIn (h : X.K = K := by rfl) : OpR X (compareOp .In) (inP K) := h ▸ op_inP
theorem opNotIn (h : X.K = K := by rfl) : OpR X (compareOp .NotIn) (notInP K) := h ▸ op_notInP
theorem ixK (h : X.K = K := by rfl) : IxR X (ixP K) := h ▸ ix_P
theorem slK (h : X.K = K := by rfl) : SlR X (slP K) := h ▸ sl_P
theorem piAny (he : PE X e te) (h : X.K = K := by rfl) : PI X tg e (iAny K te) := h ▸ pi_any he
theorem piEnum (hg : Gl X "enumerate") (hm : X.mg "enumerate" = none) (ha : PA X [e] ta) (h : X.K = K := by rfl) (hs : starEach [e] X.env = [(false, eval e X.env)] := by rfl) :
    PI X (.Tuple elts kk tpos) (.Call (.Name "enumerate" p) [e] [] pos) (iEnumP K ta) := h ▸ pi_enumP hg hm ha hs
theorem cLen (h : X.K = K := by rfl) : CallR X (.builtin "len") (rLenP K) := h ▸ call_lenP
theorem cSum (hc : X.calm = true) (h : X.K = K := by rfl) : CallR X (.builtin "sum") (rSum K) := h ▸ cr_sum hc
theorem cAll (hc : X.calm = true) (h : X.K = K := by rfl) : CallR X (.builtin "all") (rAll K) := h ▸ cr_all hc
theorem cTup (h : X.K = K := by rfl) : CallR X (.type "tuple") (rTupP K) := h ▸ call_tupP
theorem cIsi (h : X.K = K := by rfl) : CallR X (.builtin "isinstance") (rIsi K) := h ▸ call_isi
theorem cMinS (hc : X.calm = true) (h : X.K = K := by rfl) : CallR X (.builtin "min") (rMinS K) := h ▸ cr_minS hc
theorem cSortedS (h : X.K = K := by rfl) : CallR X (.builtin "sorted") (rSortedS K) := h ▸ cr_sortedS
theorem peJoin (ho : PE X o to) (he : PE X e te) (h : X.K = K := by rfl) (hs : starEach [e] X.env = [(false, eval e X.env)] := by rfl) (hbase : attributeBase o "join" X.env (eval o X.env) = eval o X.env := by rfl) (hline : (apos.endLine == pos.line) = true := by rfl) :
    PE X (.Call (.Attribute o "join" apos) [e] [] pos) (tM1 (rJoinP K) to te) := h ▸ pe_joinP ho he hs hbase hline
theorem pgTup {t : TGs} {n : Nat} (hc : X.calm = true) (ht : PGs X es t) (h : X.K = K := by rfl) (hn : (assignEach es X.env).length = n := by rfl) (hst : (assignEach es X.env).findIdx? (·.1) = none := by rfl) :
    PG X (.Tuple es kk pos) (gTup K n t) := h ▸ pg_tup hc ht hn hst
/-- xs.append(e) -/
def tApp (K : PySem.W.Frag) (to : TE) (t : TA) : TE := tBM K "list" rAppend to t
theorem peApp (ho : PE X o to) (ha : PA X (e :: es) ta) (h : X.K = K := by rfl) (hbase : attributeBase o "append" X.env (eval o X.env) = eval o X.env := by rfl)
    (hfew : ((backTo cpos (starEach (e :: es) X.env)).all (fun x => !x.1) && (backToKw cpos (keywordEach [] X.env)).all (fun x => x.1.isSome)
      && decide ((e :: es).length + ([] : List Keyword).length + (if ([] : List Keyword).isEmpty then 0 else 1) < 30)) = true := by rfl)
    (hline : (apos.endLine == cpos.line) = true := by rfl) (hs : starEach (e :: es) X.env = (false, eval e X.env) :: starEach es X.env := by rfl) (hplain : (backTo cpos (starEach es X.env)).any (·.1) = false := by rfl) :
    PE X (.Call (.Attribute o "append" apos) (e :: es) [] cpos) (tApp K to ta) := h ▸ pe_bm PySem.F.plainAttrs_list PySem.F.slot_list_append PySem.F.type_list_append mt_append ho ha hbase hfew hline hs hplain
end
section
variable {K : PySem.W.Frag} {σ : L2.St} {H : Hp} {Q : VK} {te : TE} {ta : TA} {l : Addr} {xs : List V} {v : V}
theorem i_app (q : te σ H fun x H1 => tyV K "list" x H1 ∧ ta σ H1 fun xs H2 => rAppend x xs H2 Q) : tApp K te ta σ H Q := q
theorem i_appAt (h : H l = some (.lst xs)) {P : Prop} (q : P) : tyV K "list" (.ref l) H ∧ P := ⟨.inl ⟨rfl, _, .inl (.inl h)⟩, q⟩
theorem i_appEnd (h : H l = some (.lst xs)) (hz : xs.length < 100000) (q : Q .non (upd H l (.lst (xs ++ [v])))) : rAppend (.ref l) [v] H Q := ⟨l, xs, v, rfl, rfl, h, Nat.lt_trans hz (by decide), q⟩
end
/-! ### stores into lists; a word between two statements -/
section
variable {σ : L2.St} {H : Hp} {D : Ends} {t u : TS} {to ti : TE} {v : V} {Qs : L2.St → Hp → Prop} {Qh : Hp → Prop} {p : Addr} {xs ys : List V} {z : Int}
theorem i_gsub {ts : TSet} (q : to σ H fun o H1 => ti σ H1 fun i H2 => ts o i v H2 fun H3 => Qs σ H3) : gSub to ti ts v σ H Qs := q
theorem i_setL (j : Nat) (h : H p = some (.lst xs)) (hj : ixN xs.length z = some j) (e : xs.set j v = ys) (q : Qh (upd H p (.lst ys))) : rSetL (.ref p) (.int z) v H Qh := ⟨p, xs, z, j, rfl, rfl, h, hj, by rw [e]; exact q⟩
theorem i_cut (Mid : L2.St → Hp → Prop) (h1 : t { D with nx := Mid } σ H) (h2 : ∀ σ' H', Mid σ' H' → u D σ' H') : Evl.tCut t u D σ H := ⟨Mid, h1, h2⟩
end
/-! ### "".join -/
theorem joinL_nil : ∀ ls : List (List Nat), TL.joinL [] ls = ls.flatten
  | [] => rfl
  | [p] => by simp [TL.joinL]
  | p :: q :: r => by
    show p ++ ([] ++ TL.joinL [] (q :: r)) = _
    rw [joinL_nil (q :: r)]
    rfl
theorem join_nil (ls : List (List Nat)) : Txt.join ⟨([] : List Nat).toArray⟩ (ls.map fun l => (⟨l.toArray⟩ : Str)) = ⟨ls.flatten.toArray⟩ := by
  refine TL.ext_tl ?_
  rw [TL.join_eq, TL.tl_join, List.map_map]
  show TL.joinL ([] : List Nat).toArray.toList (ls.map fun l => l.toArray.toList) = ls.flatten.toArray.toList
  simp [joinL_nil]
theorem i_join0 {K : PySem.W.Frag} {H : Hp} {Q : VK} {p : Addr} {ls : List (List Nat)} (hs : SqL K H p (ls.map S)) (hz : (ls.map List.length).sum ≤ 100000) (q : Q (S ls.flatten) H) : rJoinP K (S []) [.ref p] H Q := by
  refine ⟨⟨([] : List Nat).toArray⟩, p, ls.map fun l => (⟨l.toArray⟩ : Str), rfl, rfl, .inl ?_, ?_, ?_⟩
  · rw [List.map_map]; exact hs
  · rw [List.map_map]
    have e : (ls.map ((·.length) ∘ fun l => (⟨l.toArray⟩ : Str))) = ls.map List.length := List.map_congr_left fun l _ => str_len l
    rw [e]
    show (ls.map List.length).sum + _ * ([] : List Nat).toArray.size ≤ _
    simp
    omega
  · rw [join_nil]; exact q
theorem flat_one (cs : List Nat) : (cs.map fun c => [c]).flatten = cs := by
  induction cs with
  | nil => rfl
  | cons a r ih => rw [List.map_cons, List.flatten_cons, ih]; rfl
theorem len_one (cs : List Nat) : ((cs.map fun c => [c]).map List.length).sum = cs.length := by
  induction cs with
  | nil => rfl
  | cons a r ih => rw [List.map_cons, List.map_cons, List.sum_cons, ih, List.length_cons, List.length_cons, List.length_nil]; omega
/-- .. of signs -/
theorem i_join1 {K : PySem.W.Frag} {H : Hp} {Q : VK} {p : Addr} {cs : List Nat} (hs : SqL K H p (cs.map fun c => S [c])) (hz : cs.length ≤ 100000) (q : Q (S cs) H) : rJoinP K (S []) [.ref p] H Q := by
  refine i_join0 (ls := cs.map fun c => [c]) (by rw [List.map_map]; exact hs) (by rw [len_one]; exact hz) ?_
  rw [flat_one]
  exact q
theorem i_yes {σ : L2.St} {H : Hp} {QB : Bool → Hp → Prop} (q : QB true H) : tYes σ H QB := q
/-! ### sorted(some texts): its first -/
theorem ltCps_dec : ∀ a b : List Nat, Spec.ltCps a b = decide (a < b)
  | [], [] => by rw [decide_eq_false (List.lt_irrefl _)]; rfl
  | [], b :: t => by rw [decide_eq_true (List.nil_lt_cons b t)]; rfl
  | a :: r, [] => by rw [decide_eq_false (List.not_lt_nil _)]; rfl
  | a :: r, b :: t => by
    show (decide (a < b) || (a == b && Spec.ltCps r t)) = _
    rw [ltCps_dec r t, Bool.eq_iff_iff]
    simp [List.cons_lt_cons_iff]
theorem rising_all : ∀ (r : List Str) (p : Str), PyProof.Rows.risingS p r = true → ∀ y ∈ r, ¬ y.cps.toList < p.cps.toList
  | [], p, _, y, hy => by simp at hy
  | x :: r, p, h, y, hy => by
    have h' : (!Spec.ltCps x.cps.toList p.cps.toList && PyProof.Rows.risingS x r) = true := h
    rw [Bool.and_eq_true, ltCps_dec] at h'
    have h1 : ¬ x.cps.toList < p.cps.toList := by simpa using h'.1
    rcases List.mem_cons.mp hy with rfl | hy
    · exact h1
    · have h2 := rising_all r x h'.2 y hy
      rw [List.not_lt] at h1 h2 ⊢
      exact List.le_trans h1 h2
theorem i_sortedS {K : PySem.W.Frag} {H : Hp} {Q : VK} {a : Addr} {ls : List (List Nat)} (hs : SqL K H a (ls.map S)) (h64 : ls.length < 64)
    (q : ∀ (zs : List (List Nat)) (p : Addr), zs.Perm ls → (∀ m, zs[0]? = some m → m ∈ ls ∧ ∀ y ∈ ls, ¬ y < m) → H p = none → Q (.ref p) (upd H p (.lst (zs.map S)))) : rSortedS K [.ref a] H Q := by
  refine ⟨a, ls.map fun l => (⟨l.toArray⟩ : Str), rfl, by rw [List.map_map]; exact hs, by rw [List.length_map]; exact h64, fun ys p pm srt np => ?_⟩
  have e : ys = (ys.map fun z => z.cps.toList).map fun l => (⟨l.toArray⟩ : Str) := by
    rw [List.map_map]
    have : ys.map ((fun l => (⟨l.toArray⟩ : Str)) ∘ fun z => z.cps.toList) = ys.map id := List.map_congr_left fun z _ => rfl
    rw [this, List.map_id]
  have pm2 : (ys.map fun z => z.cps.toList).Perm ls := by
    have := pm.map fun z : Str => z.cps.toList
    rw [List.map_map] at this
    have e2 : ls.map ((fun z : Str => z.cps.toList) ∘ fun l => (⟨l.toArray⟩ : Str)) = ls.map id := List.map_congr_left fun l _ => rfl
    rw [e2, List.map_id] at this
    exact this
  have := q (ys.map fun z => z.cps.toList) p pm2 (fun m hm => ?_) np
  · rw [List.map_map] at this
    have e3 : ys.map (S ∘ fun z => z.cps.toList) = ys.map V.str := List.map_congr_left fun z _ => rfl
    rw [e3] at this
    exact this
  · have hmem : m ∈ ys.map fun z => z.cps.toList := List.mem_of_getElem? hm
    refine ⟨pm2.mem_iff.mp hmem, fun y hy => ?_⟩
    have hy2 := pm2.mem_iff.mpr hy
    obtain ⟨z, hz, rfl⟩ := List.mem_map.mp hy2
    cases ys with
    | nil => simp at hz
    | cons x r =>
      have hm' : x.cps.toList = m := by simpa using hm
      rw [← hm']
      have srt' : PyProof.Rows.risingS x r = true := srt
      rcases List.mem_cons.mp hz with rfl | hz
      · exact List.lt_irrefl _
      · exact rising_all r x srt' z hz
/-! ### isinstance(e, C), e.f in a suite; data compared -/
section
variable {K : PySem.W.Frag} {σ : L2.St} {H : Hp} {Q : VK} {a dd D C : Addr} {fs : List (Str × V)} {c x y v : V} {cv : Value} {b r : Bool} {i : Nat} {f : Str} {d1 d2 : PyData}
theorem i_isX (hdd : H dd = some (.xd fs)) (T : ExcD K D) (kc : ClsV c cv) (e : PySem.W.kitOne K (.ref D) cv = some b) (q : Q (.bl b) H) : rIsX K a (.ref D) (some dd) [.ref a, c] H Q := ⟨D, dd, fs, c, cv, b, rfl, rfl, rfl, hdd, T, kc, e, q⟩
theorem i_xf (h : σ[i]? = some (some (.ref a))) (hdd : H dd = some (.xd [(f, v)])) (q : Q v H) : tXf a (.ref C) (some dd) C f (tVar i) σ H Q := ⟨.ref a, h, rfl, rfl, dd, _, v, rfl, hdd, by simp [List.lookup], q⟩
theorem i_eq_data (h1 : Dp K H x d1) (h2 : Dp K H y d2) (s1 : SeqAt.shaped d1 = true) (s2 : SeqAt.shaped d2 = true) (e : PyData.eqv d1 d2 = r) (q : Q (.bl r) H) : eqP K x y H Q := .inr ⟨d1, d2, h1, h2, s1, s2, by rw [e]; exact q⟩
theorem i_ne_data (h1 : Dp K H x d1) (h2 : Dp K H y d2) (s1 : SeqAt.shaped d1 = true) (s2 : SeqAt.shaped d2 = true) (e : PyData.eqv d1 d2 = r) (q : Q (.bl (!r)) H) : neP K x y H Q := .inr ⟨d1, d2, h1, h2, s1, s2, by rw [e]; exact q⟩
theorem dp_bls (bs : List Bool) : DpAll K H (bs.map V.bl) (bs.map PyData.bool) := by
  induction bs with
  | nil => exact .nil
  | cons b r ih => exact .cons (.bl b) ih
theorem dp_ints (ns : List Int) : DpAll K H (ns.map V.int) (ns.map PyData.int) := by
  induction ns with
  | nil => exact .nil
  | cons b r ih => exact .cons (.int b) ih
end
theorem cIsX (K : PySem.W.Frag) {X : Cx} {a : Addr} {oe : Obj} {cls : Value} {d : Option Addr} {pn : List (Addr × Obj)} (hz : Zc cls d oe) (hf : ∃ vs, oe.data = .fields vs) (h : X.K = K := by rfl) : CallR (X.suite a ((a, oe) :: pn)) (.builtin "isinstance") (rIsX K a cls d) := h ▸ call_isX hz hf
/-- what a clause asks, at an error of a class that it names -/
theorem i_caught {K : PySem.W.Frag} {C : Addr} {c : Value} {i : Nat} {ts : Addr → Value → Option Addr → TS} {Wout : WX} {D : Ends} {d : Option Addr} {σ : L2.St} {H : Hp} (h : PySem.W.exmOne K (.ref C) c = some true)
    (q : ∀ a, H a = none → ts a (.ref C) d { nx := fun σ' H' => D.nx (σ'.set i none) H', rt := D.rt, bk := fun σ' H' => D.bk (σ'.set i none) H', ct := fun σ' H' => D.ct (σ'.set i none) H' } (σ.set i (some (.ref a))) H) : wAs K c i ts Wout D (.ref C) d σ H :=
  ⟨true, h, fun _ => q, fun z => nomatch z⟩
/-! ### isinstance and clauses, from what stands of the classes -/
theorem kit_ref {K : PySem.W.Frag} {C D : Addr} {b : Bool} (hi : PySem.W.isClsIn K D = true) (ht : PySem.W.typeIn K (.ref D) = some (.type "type")) (hs : PySem.W.subIn K (.ref D) (.ref D) = some true) (e : PySem.W.subIn K (.ref C) (.ref D) = some b) : PySem.W.kitOne K (.ref C) (.ref D) = some b := by
  unfold PySem.W.kitOne
  by_cases h : C = D
  · subst h
    rw [hs] at e
    rw [if_pos (beq_self_eq_true _)]
    exact e
  · rw [if_neg (fun z => h (by simpa using z))]
    show (if ((PySem.W.clsIn K D).isSome && PySem.W.typeIn K (.ref D) == some (.type "type")) = true then PySem.W.subIn K (.ref C) (.ref D) else none) = _
    rw [show (PySem.W.clsIn K D).isSome = true from hi, ht, if_pos (by simp)]
    exact e
theorem kit_base {K : PySem.W.Frag} {C : Addr} {T : String} {b : Bool} (hm : PySem.W.kitMeta T = true) (e : PySem.W.subIn K (.ref C) (.type T) = some b) : PySem.W.kitOne K (.ref C) (.type T) = some b := by
  unfold PySem.W.kitOne
  rw [if_neg (by simp)]
  show (if PySem.W.kitMeta T = true then PySem.W.subIn K (.ref C) (.type T) else none) = _
  rw [if_pos hm]
  exact e
theorem exm_ref {K : PySem.W.Frag} {C D : Addr} {b : Bool} (hi : PySem.W.isClsIn K D = true) (ht : PySem.W.typeIn K (.ref D) = some (.type "type")) (hb : PySem.W.subIn K (.ref D) (.type "BaseException") = some true) (e : PySem.W.subIn K (.ref C) (.ref D) = some b) : PySem.W.exmOne K (.ref C) (.ref D) = some b := by
  unfold PySem.W.exmOne
  rw [hb, if_pos (by simp)]
  show (if ((PySem.W.clsIn K D).isSome && PySem.W.typeIn K (.ref D) == some (.type "type")) = true then PySem.W.subIn K (.ref C) (.ref D) else none) = _
  rw [show (PySem.W.clsIn K D).isSome = true from hi, ht, if_pos (by simp)]
  exact e
/-! ### what is never come to; a comprehension in a comprehension -/
theorem pe_never {X : Cx} {e : Expr} : PE X e (fun _ _ _ => False) := ⟨fun _ _ _ _ _ _ h => h.elim⟩
theorem passN {X : Cx} : Passes (L2.CX X.prog X.w) X E0 := fun _ _ _ _ _ _ _ ⟨_, _, _, _, _, _, _, _, _, _, _, _, h⟩ => h.elim
theorem pss_never {X : Cx} {st : List Stmt} : PSs X st (fun _ _ _ => False) := ⟨fun _ _ _ _ _ _ h => h.elim⟩
theorem blkOk_in {N : List Str} {sc scope scope2 : Scope} {own : List (Str × Nat)} {X : Cx} {s : Shared} {H : Hp} {cl : List (Str × Addr)} {C : Addr} {fp : List Addr} (hN : X.N = N) (he : X.env.scope = sc) (h : blkC N (relS scope sc) scope2 own = true) :
    BlkOk (X.blk s H scope (compEnvC scope cl C X.env) fp).N (X.blk s H scope (compEnvC scope cl C X.env) fp).env.scope scope2 own := by
  subst hN he
  exact blkOk_by h
theorem i_is_bl {H : Hp} {Q : VK} {b : Bool} (q : Q (.bl false) H) : isP (.bl b) .non H Q := ⟨rfl, q⟩
theorem i_isn_bl {H : Hp} {Q : VK} {b : Bool} (q : Q (.bl true) H) : isNotP (.bl b) .non H Q := ⟨rfl, q⟩
theorem i_int_bl {H : Hp} {Q : VK} {b : Bool} (q : Q (.int (if b then 1 else 0)) H) : rIntP [.bl b] H Q := .inr ⟨b, rfl, q⟩
section
variable {K : PySem.W.Frag} {σ : L2.St} {H : Hp} {Q : VK} {D : Ends} {te : TE} {ta : TA} {i j : Nat} {u v w x : V} {a : Addr} {Qs : L2.St → Hp → Prop}
theorem i_par (q : ta σ H fun vs H1 => ∃ v w, vs = [v, w] ∧ D.nx ((σ.set i (some v)).set j (some w)) H1) : tPar i j ta D σ H := q
theorem i_par2 (q : D.nx ((σ.set i (some v)).set j (some w)) H) : ∃ v' w', [v, w] = [v', w'] ∧ D.nx ((σ.set i (some v')).set j (some w')) H := ⟨v, w, rfl, q⟩
theorem i_aug {ti : TIp} (h : σ[i]? = some (some x)) (q : te σ H fun y H1 => ti x y H1 fun z H2 => D.nx (σ.set i (some z)) H2) : tAug i te ti D σ H := ⟨x, h, q⟩
theorem i_ipI {f : Int → Int → Int} {a b : Int} (q : Q (.int (f a b)) H) : ipI f (.int a) (.int b) H Q := ⟨a, b, rfl, rfl, q⟩
theorem i_gtup2 (h : SqT K H a [u, v]) (q : Qs ((σ.set i (some u)).set j (some v)) H) : gTup K 2 (gCons (gName i) (gCons (gName j) gNil)) (.ref a) σ H Qs := ⟨a, _, rfl, h, rfl, u, _, rfl, v, _, rfl, rfl, q⟩
theorem i_while {c : TT} {tb : TS} (W : Nat → L2.St → Hp → Prop) (m : Nat) (h0 : W m σ H)
    (h : ∀ m σ H, W m σ H → c σ H fun b H1 => if b = true then ∃ N : L2.St → Hp → Prop, (∀ σ' H', N σ' H' → ∃ m', m' < m ∧ W m' σ' H') ∧ tb { D with nx := N, ct := N, bk := D.nx } σ H1 else D.nx σ H1) : tWhile c tb D σ H := ⟨W, ⟨m, h0⟩, h⟩
theorem i_turn {tb : TS} {W : Nat → L2.St → Hp → Prop} {m : Nat} (q : tb { D with nx := fun σ' H' => ∃ m', m' < m ∧ W m' σ' H', ct := fun σ' H' => ∃ m', m' < m ∧ W m' σ' H', bk := D.nx } σ H) :
    ∃ N : L2.St → Hp → Prop, (∀ σ' H', N σ' H' → ∃ m', m' < m ∧ W m' σ' H') ∧ tb { D with nx := N, ct := N, bk := D.nx } σ H := ⟨_, fun _ _ h => h, q⟩
theorem i_lstRg1 (q : te σ H fun x H1 => ∃ n, x = .int n ∧ RgOk 0 n ∧ ∀ q, H1 q = none → Q (.ref q) (upd H1 q (.lst (rgV 0 n)))) : tLstRg (tRg1 te) σ H Q := q
theorem rgV_nat (n : Nat) : rgV 0 (n : Int) = (List.range n).map fun (i : Nat) => V.int (i : Int) := by
  unfold rgV
  rw [Int.sub_zero, Int.toNat_natCast]
  exact List.map_congr_left fun i _ => by rw [Int.zero_add]
theorem i_rg {n : Nat} {P : Addr → Prop} (hn : n ≤ 100000) (q : ∀ q, H q = none → P q) : RgOk 0 (n : Int) ∧ ∀ q, H q = none → P q := ⟨⟨by omega, by omega, by omega, by omega, by omega⟩, q⟩
end
end Fg
/-! Loops and comprehensions, by what a turn does. -/
namespace Fg
open PySem PySem.Spec PyProof.Rows L2
theorem same_upd {H : Hp} {p : Addr} {o : HO} (h : H p = none) : Same H (upd H p o) := fun b x e => by
  rw [upd_ne (ne_of_none e h)]
  exact e
theorem Same.upd {H H' : Hp} {p : Addr} {o : HO} (e : Same H H') (h : H p = none) : Same H (upd H' p o) := fun b x eb => by
  rw [upd_ne (ne_of_none eb h)]
  exact e b x eb
theorem Same.tup {K : PySem.W.Frag} {H H' : Hp} {a : Addr} {xs : List V} (e : Same H H') (h : SqT K H a xs) : SqT K H' a xs := by
  rcases h with (h | ⟨o, h⟩) | h
  · exact .inl (.inl (e _ _ h))
  · exact .inl (.inr ⟨o, e _ _ h⟩)
  · exact .inr h
section
variable {K : PySem.W.Frag} {σ : L2.St} {H : Hp} {Q : VK} {D : Ends} {te tl : TE} {tt : TT} {ta : TA} {tb : TS} {j : Nat} {g : TG} {a : Addr} {xs : List V} {z : List Nat} {vs : List Nat}
/-- for j in range(n) -/
theorem f_rng1 (n : Nat) (ha : ∀ R : List V → Hp → Prop, R [.int (n : Int)] H → ta σ H R) (hn : n ≤ 100000000) (Pv : Nat → L2.St → Hp → Prop) (h0 : Pv 0 σ H)
    (hs : ∀ i σ' H', i < n → Pv i σ' H' → g (.int (i : Int)) σ' H' fun σ2 H2 => tb { D with nx := Pv (i + 1), ct := Pv (i + 1), bk := D.nx } σ2 H2) (hd : ∀ σ' H', Pv n σ' H' → D.nx σ' H') : tFor (iRng1 ta) g tb D σ H := by
  refine ha _ ⟨(n : Int), rfl, by omega, by omega, ?_⟩
  rw [Int.toNat_natCast]
  refine for_range Pv h0 (fun i σ' H' hi p => ?_) hd
  rw [Int.zero_add]
  exact hs i σ' H' hi p
/-- for j in range(lo, n) -/
theorem f_rng2 (lo n : Nat) (ha : ∀ R : List V → Hp → Prop, R [.int (lo : Int), .int (n : Int)] H → ta σ H R) (hn : lo ≤ 100000 ∧ n ≤ 100000000) (Pv : Nat → L2.St → Hp → Prop) (h0 : Pv 0 σ H)
    (hs : ∀ i σ' H', lo + i < n → Pv i σ' H' → g (.int ((lo + i : Nat) : Int)) σ' H' fun σ2 H2 => tb { D with nx := Pv (i + 1), ct := Pv (i + 1), bk := D.nx } σ2 H2) (hd : ∀ σ' H', Pv (n - lo) σ' H' → D.nx σ' H') : tFor (iRng2 ta) g tb D σ H := by
  refine ha _ ⟨(lo : Int), (n : Int), rfl, ⟨by omega, by omega, by omega, by omega⟩, ?_⟩
  have e : ((n : Int) - (lo : Int)).toNat = n - lo := by omega
  rw [e]
  refine for_range Pv h0 (fun i σ' H' hi p => ?_) hd
  rw [← Int.natCast_add]
  exact hs i σ' H' (by omega) p
theorem f_lst (ha : ∀ R : VK, R (.ref a) H → te σ H R) (hx : SqL K H a xs) (Pv : Nat → L2.St → Hp → Prop) (h0 : Pv 0 σ H) (hl : ∀ i σ' H', i ≤ xs.length → Pv i σ' H' → SqL K H' a xs)
    (hs : ∀ i x σ' H', xs[i]? = some x → Pv i σ' H' → g x σ' H' fun σ2 H2 => tb { D with nx := Pv (i + 1), ct := Pv (i + 1), bk := D.nx } σ2 H2) (hd : ∀ σ' H', Pv xs.length σ' H' → D.nx σ' H') : tFor (iAny K te) g tb D σ H :=
  ha _ (.inl ⟨a, xs, rfl, hx, for_list Pv h0 hl hs hd⟩)
theorem f_tup (ha : ∀ R : VK, R (.ref a) H → te σ H R) (hx : SqT K H a xs) (Pv : Nat → L2.St → Hp → Prop) (h0 : Pv 0 σ H) (hl : ∀ i σ' H', i ≤ xs.length → Pv i σ' H' → SqT K H' a xs)
    (hs : ∀ i x σ' H', xs[i]? = some x → Pv i σ' H' → g x σ' H' fun σ2 H2 => tb { D with nx := Pv (i + 1), ct := Pv (i + 1), bk := D.nx } σ2 H2) (hd : ∀ σ' H', Pv xs.length σ' H' → D.nx σ' H') : tFor (iAny K te) g tb D σ H :=
  ha _ (.inr (.inl ⟨a, xs, rfl, hx, for_tup Pv h0 hl hs hd⟩))
theorem f_str (ha : ∀ R : VK, R (S z) H → te σ H R) (Pv : Nat → L2.St → Hp → Prop) (h0 : Pv 0 σ H)
    (hs : ∀ i c σ' H', z[i]? = some c → Pv i σ' H' → g (S [c]) σ' H' fun σ2 H2 => tb { D with nx := Pv (i + 1), ct := Pv (i + 1), bk := D.nx } σ2 H2) (hd : ∀ σ' H', Pv z.length σ' H' → D.nx σ' H') : tFor (iAny K te) g tb D σ H := by
  have e : (⟨z.toArray⟩ : Str).cps.size = z.length := str_len z
  refine ha _ (.inr (.inr ⟨_, rfl, for_it walk_str Pv h0 (fun _ _ _ _ _ => True.intro) (fun i x σ' H' H2 hi p y => ?_) (by rw [e]; exact hd)⟩))
  obtain ⟨rfl, c, hc, rfl⟩ := y
  exact hs i c σ' _ (by simpa using hc) p
/-- for i, c in enumerate(text) -/
theorem f_enumS {i1 i2 : Nat} (ha : ∀ R : List V → Hp → Prop, R [S z] H → ta σ H R) (Pv : Nat → L2.St → Hp → Prop) (h0 : Pv 0 σ H)
    (hs : ∀ i c σ' H' T, z[i]? = some c → Pv i σ' H' → H' T = none → tb { D with nx := Pv (i + 1), ct := Pv (i + 1), bk := D.nx } ((σ'.set i1 (some (.int (i : Int)))).set i2 (some (S [c]))) (upd H' T (.tup [.int (i : Int), S [c]]))) (hd : ∀ σ' H', Pv z.length σ' H' → D.nx σ' H') :
    tFor (iEnumP K ta) (gTup K 2 (gCons (gName i1) (gCons (gName i2) gNil))) tb D σ H := by
  have e : (⟨z.toArray⟩ : Str).cps.size = z.length := str_len z
  refine ha _ (.inr ⟨⟨z.toArray⟩, rfl, ?_⟩)
  have w : Walk (Ites ⟨z.toArray⟩) z.length (fun _ => True) (fun i Ha v Hb => ∃ T c, v = .ref T ∧ Ha T = none ∧ Hb = upd Ha T (.tup [.int (i : Nat), S [c]]) ∧ z[i]? = some c) := by
    refine ⟨fun i H' hi _ => by show i < (⟨z.toArray⟩ : Str).cps.size; rw [e]; exact hi, fun H' _ => e.symm, fun i H' x H2 hi _ y => ?_⟩
    obtain ⟨T, c, h1, h2, h3, h4⟩ := y
    exact ⟨T, c, h1, h2, h3, by simpa using h4⟩
  refine for_it w Pv h0 (fun _ _ _ _ _ => True.intro) (fun i x σ' H' H2 hi p y => ?_) hd
  obtain ⟨T, c, rfl, nT, rfl, hc⟩ := y
  exact ⟨T, _, rfl, SqT.of upd_same, rfl, _, _, rfl, _, _, rfl, rfl, hs i c σ' H' T hc p nT⟩
/-! comprehensions whose elements leave what stood -/
def Lw (H1 : Hp) (Dl : Addr) (l : Nat → List V) (i : Nat) (H' : Hp) : Prop := H1 Dl = none ∧ Same H1 H' ∧ H' Dl = some (.lst (l i))
/-- the kept ones among the first n -/
def kept (f : Nat → Bool) (v : Nat → V) (n : Nat) : List V := ((List.range n).filter f).map v
theorem kept_yes {f : Nat → Bool} {v : Nat → V} {n : Nat} (h : f n = true) : kept f v (n + 1) = kept f v n ++ [v n] := by
  unfold kept
  rw [List.range_succ, List.filter_append, List.map_append, List.filter_cons_of_pos h] <;> rfl
theorem kept_no {f : Nat → Bool} {v : Nat → V} {n : Nat} (h : f n = false) : kept f v (n + 1) = kept f v n := by
  unfold kept
  rw [List.range_succ, List.filter_append, List.map_append, List.filter_cons_of_neg (by rw [h]; decide)]
  simp
theorem kept_len (f : Nat → Bool) (v : Nat → V) (n : Nat) : (kept f v n).length ≤ n := by
  unfold kept
  rw [List.length_map]
  exact Nat.le_trans (List.length_filter_le _ _) (by rw [List.length_range]; exact Nat.le_refl _)
theorem kept_all (v : Nat → V) (n : Nat) : kept (fun _ => true) v n = (List.range n).map v := by
  unfold kept
  rw [List.filter_eq_self.mpr (fun _ _ => rfl)]
theorem lw_turn {H1 H' : Hp} {Dl : Addr} {f : Nat → Bool} {v : Nat → V} {i : Nat} {σ2 : L2.St} (p : Lw H1 Dl (kept f v) i H') (hi : i < 100000)
    (ht : ∀ H2, Same H1 H2 → ∀ QB : Bool → Hp → Prop, (∀ H3, Same H2 H3 → QB (f i) H3) → tt σ2 H2 QB) (he : ∀ H2, Same H1 H2 → f i = true → ∀ QV : VK, (∀ H3, Same H2 H3 → QV (v i) H3) → te σ2 H2 QV) :
    tt σ2 H' fun b H3 => if b = true then te σ2 H3 fun y H4 => ∃ acc, H4 Dl = some (.lst acc) ∧ acc.length < sizeLine ∧ Lw H1 Dl (kept f v) (i + 1) (upd H4 Dl (.lst (acc ++ [y]))) else Lw H1 Dl (kept f v) (i + 1) H3 := by
  obtain ⟨n1, s1, d1⟩ := p
  refine ht H' s1 _ fun H3 s3 => ?_
  cases hf : f i with
  | true =>
    rw [if_pos rfl]
    refine he H3 (s1.trans s3) hf _ fun H4 s4 => ⟨kept f v i, s4 _ _ (s3 _ _ d1), ?_, n1, ?_, ?_⟩
    · exact Nat.lt_of_le_of_lt (kept_len f v i) (Nat.lt_trans hi (by decide))
    · exact Same.upd ((s1.trans s3).trans s4) n1
    · rw [kept_yes hf]; exact upd_same
  | false =>
    rw [if_neg (by decide)]
    exact ⟨n1, s1.trans s3, by rw [kept_no hf]; exact s3 _ _ d1⟩
/-- [te for j in range(n) if tt] -/
theorem c_rng1 (n : Nat) (ha : ∀ R : List V → Hp → Prop, R [.int (n : Int)] H → ta σ H R) (hn : n ≤ 100000) (f : Nat → Bool) (v : Nat → V) (hw : ∀ x, wipe ((wipe σ vs).set j (some x)) vs = wipe σ vs)
    (ht : ∀ i H2, i < n → Same H H2 → ∀ QB : Bool → Hp → Prop, (∀ H3, Same H2 H3 → QB (f i) H3) → tt ((wipe σ vs).set j (some (.int (i : Int)))) H2 QB)
    (he : ∀ i H2, i < n → Same H H2 → f i = true → ∀ QV : VK, (∀ H3, Same H2 H3 → QV (v i) H3) → te ((wipe σ vs).set j (some (.int (i : Int)))) H2 QV)
    (q : ∀ Dl H2, H Dl = none → Same H H2 → H2 Dl = some (.lst (kept f v n)) → Q (.ref Dl) H2) : tLc (iRng1 ta) (gName j) tt te vs σ H Q := by
  refine ha _ ⟨(n : Int), rfl, by omega, by omega, fun Dl nD => ?_⟩
  rw [Int.toNat_natCast]
  refine lc_range (Lw H Dl (kept f v)) ⟨nD, same_upd nD, upd_same⟩ (fun i H' hi p => ?_) (fun H' p => q Dl H' p.1 p.2.1 p.2.2)
  rw [Int.zero_add]
  exact ⟨hw _, lw_turn p (by omega) (fun H2 s2 => ht i H2 hi s2) (fun H2 s2 => he i H2 hi s2)⟩
/-- .. every one -/
theorem c_rng1A (n : Nat) (ha : ∀ R : List V → Hp → Prop, R [.int (n : Int)] H → ta σ H R) (hn : n ≤ 100000) (v : Nat → V) (hw : ∀ x, wipe ((wipe σ vs).set j (some x)) vs = wipe σ vs)
    (he : ∀ i H2, i < n → Same H H2 → ∀ QV : VK, (∀ H3, Same H2 H3 → QV (v i) H3) → te ((wipe σ vs).set j (some (.int (i : Int)))) H2 QV)
    (q : ∀ Dl H2, H Dl = none → Same H H2 → H2 Dl = some (.lst ((List.range n).map v)) → Q (.ref Dl) H2) : tLc (iRng1 ta) (gName j) tYes te vs σ H Q :=
  c_rng1 n ha hn (fun _ => true) v hw (fun i H2 hi s2 QB k => k H2 (L2.Same.refl H2)) (fun i H2 hi s2 _ => he i H2 hi s2) (fun Dl H2 n1 s1 d1 => q Dl H2 n1 s1 (by rw [kept_all] at d1; exact d1))
/-- [te for j in a list if tt] -/
theorem c_lst (ha : ∀ R : VK, R (.ref a) H → tl σ H R) (hx : SqL K H a xs) (hn : xs.length ≤ 100000) (f : Nat → Bool) (v : Nat → V) (hw : ∀ x, wipe ((wipe σ vs).set j (some x)) vs = wipe σ vs)
    (ht : ∀ i x H2, xs[i]? = some x → Same H H2 → ∀ QB : Bool → Hp → Prop, (∀ H3, Same H2 H3 → QB (f i) H3) → tt ((wipe σ vs).set j (some x)) H2 QB)
    (he : ∀ i x H2, xs[i]? = some x → Same H H2 → f i = true → ∀ QV : VK, (∀ H3, Same H2 H3 → QV (v i) H3) → te ((wipe σ vs).set j (some x)) H2 QV)
    (q : ∀ Dl H2, H Dl = none → Same H H2 → H2 Dl = some (.lst (kept f v xs.length)) → Q (.ref Dl) H2) : tLc (iAny K tl) (gName j) tt te vs σ H Q := by
  refine ha _ (.inl ⟨a, xs, rfl, hx, fun Dl nD => ?_⟩)
  refine lc_list (Lw H Dl (kept f v)) ⟨nD, same_upd nD, upd_same⟩ (fun i H' hi p => p.2.1.seq hx) (fun i x H' hi p => ?_) (fun H' p => q Dl H' p.1 p.2.1 p.2.2)
  have hlt := (List.getElem?_eq_some_iff.mp hi).1
  exact ⟨hw _, lw_turn p (by omega) (fun H2 s2 => ht i x H2 hi s2) (fun H2 s2 => he i x H2 hi s2)⟩
/-- [te for j in a tuple if tt] -/
theorem c_tup (ha : ∀ R : VK, R (.ref a) H → tl σ H R) (hx : SqT K H a xs) (hn : xs.length ≤ 100000) (f : Nat → Bool) (v : Nat → V) (hw : ∀ x, wipe ((wipe σ vs).set j (some x)) vs = wipe σ vs)
    (ht : ∀ i x H2, xs[i]? = some x → Same H H2 → ∀ QB : Bool → Hp → Prop, (∀ H3, Same H2 H3 → QB (f i) H3) → tt ((wipe σ vs).set j (some x)) H2 QB)
    (he : ∀ i x H2, xs[i]? = some x → Same H H2 → f i = true → ∀ QV : VK, (∀ H3, Same H2 H3 → QV (v i) H3) → te ((wipe σ vs).set j (some x)) H2 QV)
    (q : ∀ Dl H2, H Dl = none → Same H H2 → H2 Dl = some (.lst (kept f v xs.length)) → Q (.ref Dl) H2) : tLc (iAny K tl) (gName j) tt te vs σ H Q := by
  refine ha _ (.inr (.inl ⟨a, xs, rfl, hx, fun Dl nD => ?_⟩))
  refine lc_tup (Lw H Dl (kept f v)) ⟨nD, same_upd nD, upd_same⟩ (fun i H' hi p => Same.tup p.2.1 hx) (fun i x H' hi p => ?_) (fun H' p => q Dl H' p.1 p.2.1 p.2.2)
  have hlt := (List.getElem?_eq_some_iff.mp hi).1
  exact ⟨hw _, lw_turn p (by omega) (fun H2 s2 => ht i x H2 hi s2) (fun H2 s2 => he i x H2 hi s2)⟩
end
/-! a loop over what the text makes anew -/
def LoopG (g : TG) (tb : TS) (D : Ends) (σ : L2.St) : It → Hp → Prop := fun J H1 => tFor (fun _ _ R => R J H1) g tb D σ H1
section
variable {K : PySem.W.Frag} {σ : L2.St} {H : Hp} {D : Ends} {te : TE} {tb : TS} {g : TG} {a : Addr} {xs : List V}
theorem i_for (q : te σ H fun x H1 => (∃ a xs, x = .ref a ∧ SqL K H1 a xs ∧ LoopG g tb D σ (Itl K a) H1) ∨ (∃ a xs, x = .ref a ∧ SqT K H1 a xs ∧ LoopG g tb D σ (Itt K a) H1) ∨ (∃ z, x = .str z ∧ LoopG g tb D σ (Its z) H1)) : tFor (iAny K te) g tb D σ H := q
theorem i_forL {B : Prop} (hx : SqL K H a xs) (Pv : Nat → L2.St → Hp → Prop) (h0 : Pv 0 σ H) (hl : ∀ i σ' H', i ≤ xs.length → Pv i σ' H' → SqL K H' a xs)
    (hs : ∀ i x σ' H', xs[i]? = some x → Pv i σ' H' → g x σ' H' fun σ2 H2 => tb { D with nx := Pv (i + 1), ct := Pv (i + 1), bk := D.nx } σ2 H2) (hd : ∀ σ' H', Pv xs.length σ' H' → D.nx σ' H') :
    (∃ a' xs', V.ref a = .ref a' ∧ SqL K H a' xs' ∧ LoopG g tb D σ (Itl K a') H) ∨ B := .inl ⟨a, xs, rfl, hx, for_list Pv h0 hl hs hd⟩
end
/-! a loop over a range whose end the text makes anew; lists put together, cut -/
section
variable {K : PySem.W.Frag} {σ : L2.St} {H : Hp} {Q : VK} {D : Ends} {ta : TA} {tb : TS} {g : TG} {a b : Addr} {xs ys : List V}
theorem i_forR (q : ta σ H fun vs H1 => ∃ j : Int, vs = [.int j] ∧ -(2 ^ 62) ≤ j ∧ j < 2 ^ 62 ∧ LoopG g tb D σ (Itr 0 j.toNat) H1) : tFor (iRng1 ta) g tb D σ H := q
theorem i_rngD {n : Int} (h0 : 0 ≤ n) (h : n ≤ 100000000) (Pv : Nat → L2.St → Hp → Prop) (hp : Pv 0 σ H)
    (hs : ∀ (i : Nat) σ' H', (i : Int) < n → Pv i σ' H' → g (.int (i : Int)) σ' H' fun σ2 H2 => tb { D with nx := Pv (i + 1), ct := Pv (i + 1), bk := D.nx } σ2 H2) (hd : ∀ σ' H', Pv n.toNat σ' H' → D.nx σ' H') :
    ∃ j : Int, [V.int n] = [.int j] ∧ -(2 ^ 62) ≤ j ∧ j < 2 ^ 62 ∧ LoopG g tb D σ (Itr 0 j.toNat) H := by
  refine ⟨n, rfl, by omega, by omega, ?_⟩
  refine for_range Pv hp (fun i σ' H' hi p => ?_) hd
  rw [Int.zero_add]
  exact hs i σ' H' (by omega) p
theorem i_catL (h1 : H a = some (.lst xs)) (h2 : H b = some (.lst ys)) (hz : xs.length + ys.length ≤ 100000) (q : ∀ p, H p = none → Q (.ref p) (upd H p (.lst (xs ++ ys)))) : addP K (.ref a) (.ref b) H Q :=
  .inr (.inr (.inl ⟨a, b, xs, ys, rfl, rfl, h1, h2, Nat.le_trans hz (by decide), q⟩))
theorem i_slL {lo hi : Option Int} (h : SqL K H a xs) (q : ∀ p, H p = none → Q (.ref p) (upd H p (.lst (cutV xs lo hi)))) : slP K (.ref a) lo hi H Q := .inl ⟨a, xs, rfl, h, q⟩
theorem cutV_init (xs : List V) : cutV xs none (some (-1)) = xs.dropLast := by
  unfold cutV
  rw [HT.sIx_none, List.drop_zero, Nat.sub_zero, List.dropLast_eq_take]
  have e : HT.sIx xs.length xs.length (some (-1)) = xs.length - 1 := by
    unfold HT.sIx
    dsimp only
    rw [if_pos (by decide)]
    omega
  rw [e]
theorem cutV_to {xs : List V} (k : Nat) : cutV xs none (some (k : Int)) = xs.take k := by
  unfold cutV
  rw [HT.sIx_none, List.drop_zero, Nat.sub_zero, HT.sIx_nat]
  by_cases h : k ≤ xs.length
  · rw [Nat.min_eq_left h]
  · rw [Nat.min_eq_right (by omega), List.take_length, List.take_of_length_le (by omega)]
theorem atI_last {xs : List V} {v : V} : atI (xs ++ [v]) (-1) = some v := by
  unfold atI ixN
  rw [if_neg (by decide), if_pos (by rw [List.length_append, List.length_singleton]; omega), Option.bind_some]
  have e : (-1 + ((xs ++ [v]).length : Int)).toNat = xs.length := by rw [List.length_append, List.length_singleton]; omega
  rw [e, List.getElem?_append_right (Nat.le_refl _), Nat.sub_self]
  rfl
end
end Fg
/-! A comprehension over a range, its list and what it makes anew. -/
namespace Fg
open PySem PySem.Spec PyProof.Rows L2
def LcG (g : TG) (tt : TT) (te : TE) (vs : List Nat) (σ : L2.St) (Q : VK) : It → Hp → Prop := fun J H1 => tLc (fun _ _ R => R J H1) g tt te vs σ H1 Q
section
variable {K : PySem.W.Frag} {σ : L2.St} {H : Hp} {Q : VK} {te tl : TE} {tt : TT} {g : TG} {ta : TA} {j : Nat} {vs : List Nat} {a : Addr} {xs : List V}
theorem i_lcR (q : ta σ H fun us H1 => ∃ n : Int, us = [.int n] ∧ -(2 ^ 62) ≤ n ∧ n < 2 ^ 62 ∧ LcG g tt te vs σ Q (Itr 0 n.toNat) H1) : tLc (iRng1 ta) g tt te vs σ H Q := q
theorem i_lcRg {n : Int} (h0 : 0 ≤ n) (h : n ≤ 100000) (hw : ∀ x, wipe ((wipe σ vs).set j (some x)) vs = wipe σ vs)
    (k : ∀ Dl, H Dl = none → ∃ W : Nat → Hp → Prop, W 0 (upd H Dl (.lst [])) ∧ (∀ (i : Nat) H', (i : Int) < n → W i H' → te ((wipe σ vs).set j (some (.int (i : Int)))) H' fun y H2 => ∃ acc, H2 Dl = some (.lst acc) ∧ acc.length < sizeLine ∧ W (i + 1) (upd H2 Dl (.lst (acc ++ [y])))) ∧ ∀ H', W n.toNat H' → Q (.ref Dl) H') :
    ∃ n' : Int, [V.int n] = [.int n'] ∧ -(2 ^ 62) ≤ n' ∧ n' < 2 ^ 62 ∧ LcG (gName j) tYes te vs σ Q (Itr 0 n'.toNat) H := by
  refine ⟨n, rfl, by omega, by omega, fun Dl nD => ?_⟩
  obtain ⟨W, w0, ws, wd⟩ := k Dl nD
  refine lc_range W w0 (fun i H' hi p => ?_) wd
  rw [Int.zero_add]
  exact ⟨hw _, i_yes (i_tt (ws i H' (by omega) p))⟩
end
end Fg
/-! Defs whose promise holds where nothing is being displayed around them (so that repr may be asked of data), and the end of a law of such defs. -/
namespace Fg
open PySem PySem.Spec PyProof.Rows L2
/-- the promise of the def at f, where no display stands around -/
structure GOk (P : Program) (w : World) (K : PySem.W.Frag) (mg : Str → Option Value) (base : Heap) (CX : CXT) (k : Nat) (f : Addr) (fd : FuncData) (ps : List Str) (sp : Sp) : Prop where
  many : ∀ vs H Q E, sp vs H Q E → vs.length = ps.length
  runs : ∀ (B : Around) (o : List Env) (t : Shared) (H : Hp) (ar : Args) (us : List Value) (vs : List V) (Q : VK) (E : XK),
    B.guards = some [] → Room k B → Env0 P w K mg base B o t H → BindsTo t fd ar (ps.zip us) → Vals vs us →
    sp vs H Q E → codeAny (model P w) B (.call (.ref f) ar) (CR CX o P w H t Q E) t
section
variable {P : Program} {w : World} {K : PySem.W.Frag} {mg : Str → Option Value} {base : Heap} {CX : CXT} {k : Nat} {f : Addr} {fd : FuncData} {ps N : List Str} {sp : Sp} {x q : Str} {st : Stmt}
theorem GOk.of (F : FnOk P w K mg base CX k f fd ps sp) : GOk P w K mg base CX k f fd ps sp :=
  ⟨F.len, fun B o t H ar us vs Q E _ r e b v s => F.run B o t H ar us vs Q E r e b v s⟩
/-- a def's body, walked where no display stands around -/
theorem gok_mk (F : Fun K x q st f fd) (S : FnScope N ps (defScope st)) (many : ∀ vs H Q E, sp vs H Q E → vs.length = ps.length)
    (body : ∀ (cv : Value) (B : Around) (o : List Env) (t : Shared) (H : Hp) (vs : List V) (Q : VK) (E : XK), B.guards = some [] →
      Room k (B.deeper (envOfC q (defScope st) t.heap.objs.size f cv)) → sp vs H Q E →
      ∃ rd, PSs (cxOf CX P w K mg base N q (defScope st) f cv B o t H E) (defBody st) rd ∧
        rd { nx := fun _ H2 => Q .non H2, rt := Q } (start N vs) H) : GOk P w K mg base CX (k + 1) f fd ps sp := by
  obtain ⟨c1, d1, kw1, dc1, pm1, an1, cv1, ct1, sl1, rfl, at1, code1⟩ := F.ex
  refine ⟨many, fun B o t H ar us vs Q E hgu room en bd rv asked => ?_⟩
  have inK : K.In t.heap := en.mod.kin.keeps fun b u e => (en.bs b u e).1
  have nolim : t.heap.NoLimit := en.mod.nolimit.keeps fun b u e => (en.bs b u e).1
  have n1 := many _ _ _ _ asked
  refine codeAny_call_function room.depth (inK _ _ at1) rfl S.co S.gen rfl
    (PySem.W.codeRec_of inK code1) (bd _ _ _ _ ?_)
  refine wpAny_newFunctionEnv_cells S.kind (fun ⟨nm, u⟩ hm => ?_) fun env he t1 made => ?_
  · exact (S.par nm (List.of_mem_zip hm).1).elim .inl fun z => .inr ⟨z, PySem.W.cellsFrom_some _ _ _ (.inl z)⟩
  subst he
  obtain ⟨rd, walked, holds⟩ := body cv1 B o t H vs Q E hgu (room.deeper _) asked
  have I0 := inv_start (CX := CX) (E := E) S room.hd en n1 rv made
  refine ⟨nolim.keeps made.toInCall.keep, codeAny_func (wpAny_mono (walked.run [] t1 (start N vs) H _ I0 holds) (fun fl t2 h2 => ?_) fun _ _ h2 => h2)⟩
  cases fl with
  | brk => obtain ⟨_, _, _, z⟩ := h2; exact z.elim
  | cont => obtain ⟨_, _, _, z⟩ := h2; exact z.elim
  | next =>
    obtain ⟨_, H2, J, z⟩ := h2
    exact ⟨.non, H2, J.os, J.bare, J.base, J.hok, rfl, z⟩
  | ret u =>
    obtain ⟨v, _, H2, J, rv2, z⟩ := h2
    exact ⟨v, H2, J.os, J.bare, J.base, J.hok, rv2, z⟩
end
section
variable {X : Cx} {CX : CXT} {k : Nat} {f : Addr} {fd : FuncData} {ps : List Str} {sp : Sp} {E : XK} {x : Str} {p pos : PySem.Pos} {e : Expr} {es : List Expr} {ta : TA}
theorem run_g (F : GOk X.prog X.w X.K X.mg X.base CX k f fd ps sp) (hgu : X.A.guards = some []) (hr : Room k X.A) (hb : Binds X.K fd ps []) (hx : Passes CX X E) {pins : List (Addr × Obj)} {σ : L2.St} {H : Hp} {s : Shared} {Q : VK} {us : List Value} {vs : List V}
    (I : Inv X pins σ H s) (r : Vals vs us) (h : sp (vs ++ []) H Q E) : wpAny (model X.prog X.w) X.A (call (.ref f) us) (EP X pins σ Q) X.xe s := by
  rw [List.append_nil] at h
  have n1 : us.length = ps.length := by rw [← r.length]; exact F.many _ _ _ _ h
  have b1 := hb s us I.kIn (by rw [List.append_nil]; exact n1)
  rw [List.append_nil] at b1
  refine wpAny_call (codeAny_mono (F.runs X.A X.stack s H ⟨us, []⟩ us vs Q E hgu hr I.env0 b1 r h) fun res t2 h2 => ?_)
  cases res with
  | error z => exact hx pins σ H s z t2 I h2
  | ok fl =>
    cases fl with
    | next => exact h2.elim
    | brk => exact h2.elim
    | cont => exact h2.elim
    | ret u => exact I.after h2
/-- .. and how it stands in the text -/
def GOK (P : Program) (w : World) (K : PySem.W.Frag) (mg : Str → Option Value) (base : Heap) (CX : CXT) (k : Nat) (x : Str) (ps : List Str) (sp : Sp) : Prop :=
  ∃ (f : Addr) (fd : FuncData), GOk P w K mg base CX k f fd ps sp ∧ mg x = some (.ref f) ∧ PySem.W.keepIn K (.ref f) = true ∧ Binds K fd ps []
theorem pe_g (G : GOK X.prog X.w X.K X.mg X.base CX k x ps sp) (hgu : X.A.guards = some []) (hr : Room k X.A) (hx : Passes CX X E) (ha : PA X (e :: es) ta) (hg : Gl X x := by rfl) (hd : (x == ("__debug__" : Str)) = false := by decide)
    (he : starEach (e :: es) X.env = (false, eval e X.env) :: starEach es X.env := by rfl) (hpl : (backTo pos (starEach es X.env)).any (·.1) = false := by rfl) :
    PE X (.Call (.Name x p) (e :: es) [] pos) (tCall sp [] E ta) := by
  obtain ⟨f, fd, F, hm, hk, hb⟩ := G
  exact ⟨fun pins s σ H Q I h => wpAny_Call_Name_kw (ld_glob I hg hm (PySem.W.callWith_K (h₀ := X.base) I.ok.mod.kin hk
    (thn (ha.run pos pins s σ H _ I h) fun us s1 ⟨vs, H1, I1, r, q⟩ => ⟨I1.kIn, run_g F hgu hr hb hx I1 r q⟩) he hpl) hd)⟩
end
/-! ### repr of data -/
def rReprD (K : PySem.W.Frag) : RC := fun xs H Q => ∃ (a : Addr) (d : PyData), xs = [.ref a] ∧ Dp K H (.ref a) d ∧ d.showable = true ∧ d.hasDict = false ∧ d.depth ≤ 60 ∧ d.shown.length ≤ sizeLine ∧ Q (.str d.shown) H
theorem call_reprD {X : Cx} (hgu : X.A.guards = some []) (hu : X.A.units + 64 < cLine) : CallR X (.builtin "repr") (rReprD X.K) := by
  intro pins s σ H xs us Q I r h
  obtain ⟨a, d, rfl, hd, h1, h2, h3, h4, q⟩ := h
  cases r with
  | cons ru rn =>
    cases rn
    cases (show _ = Value.ref a from ru)
    obtain ⟨as, rd⟩ := Dp.reads I d (.ref a) (.ref a) hd rfl
    exact repr_of_reads' rd h1 (PyData.noDict_hsm h2) hgu (by omega) (fun b o e => e)
      (fun h' u tk hk => ⟨.str d.shown, H, I.kept (t' := tk) hk, ⟨u, rfl⟩, q⟩) h4
/-! ### the end of a law, its def's promise holding where no display stands around -/
/-- one heap in which the script alone may be tracked -/
def SoleAt (K : PySem.W.Frag) (a : Addr) (t : Heap) (P : Program) (w : World) (xs : List V) (H : Hp) : Prop :=
  (∀ b u, H b = some u → b = a ∧ ∃ ob, u = .frz ob (.lst xs)) ∧ SqL K H a xs ∧ HOk P w H t ∧ (H a ≠ none → K.lookup a = none)
theorem law_g {P : Program} {w : World} {K : PySem.W.Frag} {mg mb : Str → Option Value} {CX : CXT} {k : Nat} {fa a : Addr} {fd : FuncData} {x : Str} {sp : Sp} {t : Shared} {vs : List Value} {ns : List Int}
    (inK : K.In t.heap) (nsM : t.heap.Ns mainGlobals mg) (nsB : t.heap.Ns builtinsNs mb) (boot : ∀ y : Str, y ≠ "__name__" → mb y = bootBuiltins y) (lim : t.heap.NoLimit) (noGen : t.gens = #[])
    (script : t.heap.get? a = some { cls := .type "list", data := .seq vs.toArray }) (hni : IntsAre vs ns) (few : ns.length ≤ sizeLine) (room : Room k callerA)
    (F : ∀ base : Heap, K.In base → base.Ns mainGlobals mg → GOk P w K mg base CX k fa fd [x] sp) (bind : ∀ (s : Shared) (u : Value), BindsTo s fd ⟨[u], []⟩ [(x, u)])
    (asked : ∀ H : Hp, Only H → SqL K H a (ns.map V.int) → sp [.ref a] H (fun v _ => v = .bl true) fun _ _ _ => False)
    (noErr : ∀ H e s', CX [] H t (fun _ _ _ => False) e s' → False) :
    codeAny (model P w) callerA (.call (.ref fa) ⟨[.ref a], []⟩) (fun r t2 => r = .ok (.ret (.bool true)) ∧ OldK t.heap t2.heap ∧ t2.os = t.os ∧ AllBare t2.gens) t := by
  have hv := vals_ints hni
  have hlen : vs.length = ns.length := hni.length
  obtain ⟨H, sole, sq, hok, free⟩ : ∃ H, SoleAt K a t.heap P w (ns.map V.int) H := by
    by_cases hk : ∃ o, K.lookup a = some o
    · obtain ⟨o, hk⟩ := hk
      have e1 := inK a o hk
      rw [script] at e1
      cases e1
      exact ⟨fun _ => none, fun b u z => (nomatch z), .inr ⟨_, vs.toArray, _, hk, rfl, rfl, rfl, by rw [List.size_toArray, hlen]; exact few, by simpa using hv⟩, fun b u z => (nomatch z), fun z => absurd rfl z⟩
    · have hn : K.lookup a = none := by
        cases e1 : K.lookup a with
        | none => rfl
        | some o => exact absurd ⟨o, e1⟩ hk
      have at1 : ∀ b u, (if b = a then some (HO.frz { cls := .type "list", data := .seq vs.toArray } (.lst (ns.map V.int))) else none) = some u → b = a ∧ u = HO.frz { cls := .type "list", data := .seq vs.toArray } (.lst (ns.map V.int)) := fun b u z => by
        by_cases hb : b = a
        · rw [if_pos hb] at z; exact ⟨hb, (Option.some.inj z).symm⟩
        · rw [if_neg hb] at z; cases z
      refine ⟨fun b => if b = a then some (HO.frz { cls := .type "list", data := .seq vs.toArray } (.lst (ns.map V.int))) else none, fun b u z => ⟨(at1 b u z).1, _, (at1 b u z).2⟩, .inl (.inr ⟨_, if_pos rfl⟩), fun b u z => ?_, fun _ => hn⟩
      obtain ⟨rfl, rfl⟩ := at1 b u z
      exact ⟨script, by rw [List.length_map]; exact few, vs, _, hv, script⟩
  have only : Only H := fun b => by
    cases e1 : H b with
    | none => exact .inl rfl
    | some u =>
      obtain ⟨_, ob, rfl⟩ := sole b u e1
      exact .inr ⟨ob, _, rfl⟩
  -- the base: what stands, the script hidden if it is tracked
  have hid : ∀ {b : Addr} {o : Obj}, t.heap.get? b = some o → (b = a → H a = none) → (hidT t.heap H).get? b = some o := fun {b o} e1 e2 => hidT_get e1 (by
    cases e3 : H b with
    | none => rfl
    | some u =>
      obtain ⟨rfl, _⟩ := sole b u e3
      rw [e2 rfl] at e3; cases e3)
  have ns : ∀ {b : Addr} {m : Str → Option Value}, t.heap.Ns b m → (hidT t.heap H).Ns b m := fun {b m} ⟨o, es, ep, e1, d1, r1⟩ => ⟨o, es, ep, hid e1 (fun z => by
    subst z
    rw [script] at e1
    cases e1
    cases (show Data.seq vs.toArray _ = Data.dict es ep from d1)), d1, r1⟩
  have inB : K.In (hidT t.heap H) := fun b o e1 => hid (inK b o e1) fun z => by
    subst z
    by_cases e2 : H b = none
    · exact e2
    · rw [free e2] at e1; cases e1
  obtain ⟨mc, l1, l2⟩ := lim
  have en : Env0 P w K mg (hidT t.heap H) callerA [] t H :=
    ⟨rfl, ⟨inB, ns nsM, ⟨mb, ns nsB, boot⟩, ⟨mc, ns l1, l2⟩⟩, fun b o e1 => of_hidT e1, Nat.le_of_eq (hidT_size _ _), trivial,
      fun b hb => absurd (show b ∈ ([] : List Addr) from hb) (by simp), hok, .of_eq noGen⟩
  refine codeAny_mono ((F _ inB (ns nsM)).runs callerA [] t H ⟨[.ref a], []⟩ [.ref a] [.ref a] _ _ rfl room en (bind t (.ref a)) (.cons rfl .nil) (asked H only sq)) fun res t2 h2 => ?_
  cases res with
  | error z => exact (noErr H z t2 h2).elim
  | ok fl =>
    cases fl with
    | next => exact h2.elim
    | brk => exact h2.elim
    | cont => exact h2.elim
    | ret u =>
      obtain ⟨v, H2, os, bare, un, hok2, rv, q⟩ := h2
      have q : v = .bl true := q
      subst q
      cases (show u = Value.bool true from rv)
      refine ⟨rfl, OldK.of_keep fun b o e1 => ?_, os, bare⟩
      cases e2 : H b with
      | none => exact un.keep b o e1 e2 (fun z => absurd (show b ∈ ([] : List Addr) from z) (by simp)) (by simp)
      | some u =>
        obtain ⟨rfl, ob, rfl⟩ := sole b u e2
        obtain ⟨k1, _⟩ := hok _ _ e2
        obtain ⟨k2, _⟩ := hok2 _ _ (un.frzs _ ob _ e2)
        rw [e1] at k1; cases k1
        exact k2
theorem walk_g {l : PySem.W.OpenLaw} {n k : Nat} {q : Program} {loose : List Str} {XP : (Str → Option Value) → Heap → Prop} {YP : World → Heap → Prop} {d : DefRec} {K : Params → PySem.W.Frag} {CX : World → CXT} {sp : World → Sp} {x : Str}
    (hn : l.most = some n) (hn2 : n ≤ sizeLine) (hdf : d.params.defaults = []) (room : Room k callerA) (hY : ∀ (w : World) (h : Heap), YP w h → (K w.params).In h)
    (F : ∀ (w : World) (mg : Str → Option Value) (fa : Addr) (h : Heap), (K w.params).In h → h.Ns mainGlobals mg → mg d.name = some (.ref fa) →
      ∃ fd : FuncData, (∀ (s : Shared) (u : Value), BindsTo s fd ⟨[u], []⟩ [(x, u)]) ∧ ∀ base : Heap, (K w.params).In base → base.Ns mainGlobals mg → GOk l.prog w (K w.params) mg base (CX w) k fa fd [x] (sp w))
    (asked : ∀ (w : World) (H : Hp) (a : Addr) (ns : List Int), ns.length ≤ n → Only H → SqL (K w.params) H a (ns.map V.int) → sp w [.ref a] H (fun v _ => v = .bl true) fun _ _ _ => False)
    (noErr : ∀ (w : World) (H : Hp) (s : Shared) (e : Value) (s' : Shared), CX w [] H s (fun _ _ _ => False) e s' → False) :
    PySem.W.WalkO q loose XP YP l.row.toRowW d [] (fun f vs => PySem.call f vs) :=
  Att.attach_call hn hdf fun w s0 t mg mb fa o pm cd doc a vs ns G Y ho hd hcd hmg hobj hints hlen hg =>
    let ⟨fd, hb, hF⟩ := F w mg fa _ (hY w _ Y) G.T.g hmg
    law_g (hY w _ Y) G.T.g G.T.b G.T.builtins G.T.nolimit hg hobj hints (Nat.le_trans hlen hn2) room hF hb
      (fun H hO hS => asked w H a ns hlen hO hS) fun H e s' => noErr w H t e s'
end Fg
/-! Own classes: methods, their defaults and keywords; own exceptions of two fields. -/
namespace Fg
open PySem PySem.Spec PyProof.Rows L2
/-! ### defs with defaults -/
/-- a def with defaults dvs keeps its promise -/
def OKD (P : Program) (w : World) (K : PySem.W.Frag) (mg : Str → Option Value) (base : Heap) (CX : CXT) (k : Nat) (x : Str) (ps : List Str) (dvs : List V) (sp : Sp) : Prop :=
  ∃ (f : Addr) (fd : FuncData), FnOk P w K mg base CX k f fd ps sp ∧ mg x = some (.ref f) ∧ PySem.W.keepIn K (.ref f) = true ∧ Binds K fd ps [] ∧ ∃ ds, Vals dvs ds ∧ Binds K fd ps ds
/-- .. how it stands in the text -/
def DefD (K : PySem.W.Frag) (mg : Str → Option Value) (x : Str) (st : Stmt) (ps : List Str) (dvs : List V) : Prop :=
  ∃ (f : Addr) (fd : FuncData), FunD K x x (defArgs st) (defBody st) (defScope st) dvs [] f fd ∧ mg x = some (.ref f) ∧ Binds K fd ps [] ∧ ∃ ds, Vals dvs ds ∧ Binds K fd ps ds
section
variable {P : Program} {w : World} {K : PySem.W.Frag} {mg : Str → Option Value} {base : Heap} {x q m : Str} {st : Stmt} {N ps : List Str} {k : Nat} {sp : Sp} {dvs : List V} {C : Addr} {CX : CXT}
theorem OKD.full (G : OKD P w K mg base CX k x ps dvs sp) : OK P w K mg base CX k x ps sp := by
  obtain ⟨f, fd, F, hm, hk, hb, _⟩ := G
  exact ⟨f, fd, F, hm, hk, hb⟩
theorem FunD.ok0 {f : Addr} {fd : FuncData} {kws : List (Str × V)} (F : FunD K x q (defArgs st) (defBody st) (defScope st) dvs kws f fd) (S : FnScope N ps (defScope st)) (len : ∀ vs H Q E, sp vs H Q E → vs.length = ps.length)
    (body : ∀ (cdv : Value) (A : Around) (outer : List Env) (s : Shared) (H : Hp) (vs : List V) (Q : VK) (E : XK), Room k (A.deeper (envOfC q (defScope st) s.heap.objs.size f cdv)) → sp vs H Q E →
      ∃ t, PSs (cxOf CX0 P w K mg base N q (defScope st) f cdv A outer s H E).nox (defBody st) t ∧ t { nx := fun _ H' => Q .non H', rt := Q } (start N vs) H) : FnOk P w K mg base CX0 (k + 1) f fd ps sp :=
  F.ok S len fun cdv A outer s H vs Q E hr h => let ⟨t, z, e⟩ := body cdv A outer s H vs Q E hr h; ⟨t, z.nox, e⟩
theorem OKD.mk (D : DefD K mg x st ps dvs) (S : FnScope N ps (defScope st)) (len : ∀ vs H Q E, sp vs H Q E → vs.length = ps.length)
    (body : ∀ (f : Addr) (cdv : Value) (A : Around) (outer : List Env) (s : Shared) (H : Hp) (vs : List V) (Q : VK) (E : XK), Room k (A.deeper (envOfC x (defScope st) s.heap.objs.size f cdv)) → sp vs H Q E →
      ∃ t, PSs (cxOf CX0 P w K mg base N x (defScope st) f cdv A outer s H E).nox (defBody st) t ∧ t { nx := fun _ H' => Q .non H', rt := Q } (start N vs) H) : OKD P w K mg base CX0 (k + 1) x ps dvs sp := by
  obtain ⟨f, fd, F, hm, hb, hd⟩ := D
  exact ⟨f, fd, FunD.ok0 F S len fun cdv A outer s H vs Q E hr h => body f cdv A outer s H vs Q E hr h, hm, F.kp, hb, hd⟩
theorem OKD.mkX (D : DefD K mg x st ps dvs) (S : FnScope N ps (defScope st)) (len : ∀ vs H Q E, sp vs H Q E → vs.length = ps.length)
    (body : ∀ (f : Addr) (cdv : Value) (A : Around) (outer : List Env) (s : Shared) (H : Hp) (vs : List V) (Q : VK) (E : XK), Room k (A.deeper (envOfC x (defScope st) s.heap.objs.size f cdv)) → sp vs H Q E →
      ∃ t, PSs (cxOf (L2.CX P w) P w K mg base N x (defScope st) f cdv A outer s H E) (defBody st) t ∧ t { nx := fun _ H' => Q .non H', rt := Q } (start N vs) H) : OKD P w K mg base (L2.CX P w) (k + 1) x ps dvs sp := by
  obtain ⟨f, fd, F, hm, hb, hd⟩ := D
  exact ⟨f, fd, F.ok S len fun cdv A outer s H vs Q E hr h => body f cdv A outer s H vs Q E hr h, hm, F.kp, hb, hd⟩
/-! ### methods -/
/-- a method of the class at C as it stands in the text -/
def MetIn (K : PySem.W.Frag) (C : Addr) (m q : Str) (st : Stmt) (ps : List Str) (dvs : List V) : Prop :=
  ∃ (f : Addr) (fd : FuncData), Meth K C m f ∧ FunD K m q (defArgs st) (defBody st) (defScope st) dvs [] f fd ∧ Binds K fd ps [] ∧ ∃ ds, Vals dvs ds ∧ Binds K fd ps ds
/-- .. and it keeps its promise -/
def MOK (P : Program) (w : World) (K : PySem.W.Frag) (mg : Str → Option Value) (base : Heap) (CX : CXT) (k : Nat) (C : Addr) (m : Str) (ps : List Str) (dvs : List V) (sp : Sp) : Prop :=
  ∃ (f : Addr) (fd : FuncData), Meth K C m f ∧ FnOk P w K mg base CX k f fd ps sp ∧ Binds K fd ps [] ∧ ∃ ds, Vals dvs ds ∧ Binds K fd ps ds
theorem MOK.mk (D : MetIn K C m q st ps dvs) (S : FnScope N ps (defScope st)) (len : ∀ vs H Q E, sp vs H Q E → vs.length = ps.length)
    (body : ∀ (f : Addr) (cdv : Value) (A : Around) (outer : List Env) (s : Shared) (H : Hp) (vs : List V) (Q : VK) (E : XK), Room k (A.deeper (envOfC q (defScope st) s.heap.objs.size f cdv)) → sp vs H Q E →
      ∃ t, PSs (cxOf CX0 P w K mg base N q (defScope st) f cdv A outer s H E).nox (defBody st) t ∧ t { nx := fun _ H' => Q .non H', rt := Q } (start N vs) H) : MOK P w K mg base CX0 (k + 1) C m ps dvs sp := by
  obtain ⟨f, fd, hm, F, hb, hd⟩ := D
  exact ⟨f, fd, hm, FunD.ok0 F S len fun cdv A outer s H vs Q E hr h => body f cdv A outer s H vs Q E hr h, hb, hd⟩
theorem MOK.mkX (D : MetIn K C m q st ps dvs) (S : FnScope N ps (defScope st)) (len : ∀ vs H Q E, sp vs H Q E → vs.length = ps.length)
    (body : ∀ (f : Addr) (cdv : Value) (A : Around) (outer : List Env) (s : Shared) (H : Hp) (vs : List V) (Q : VK) (E : XK), Room k (A.deeper (envOfC q (defScope st) s.heap.objs.size f cdv)) → sp vs H Q E →
      ∃ t, PSs (cxOf (L2.CX P w) P w K mg base N q (defScope st) f cdv A outer s H E) (defBody st) t ∧ t { nx := fun _ H' => Q .non H', rt := Q } (start N vs) H) : MOK P w K mg base (L2.CX P w) (k + 1) C m ps dvs sp := by
  obtain ⟨f, fd, hm, F, hb, hd⟩ := D
  exact ⟨f, fd, hm, F.ok S len fun cdv A outer s H vs Q E hr h => body f cdv A outer s H vs Q E hr h, hb, hd⟩
/-- a class whose instances its __init__ makes -/
def MkIn (K : PySem.W.Frag) (mg : Str → Option Value) (x q : Str) (C : Addr) (st : Stmt) (ps : List Str) (dvs : List V) : Prop :=
  ∃ (f : Addr) (fd : FuncData), Mk K C f ∧ mg x = some (.ref C) ∧ FunD K "__init__" q (defArgs st) (defBody st) (defScope st) dvs [] f fd ∧ Binds K fd ps [] ∧ ∃ ds, Vals dvs ds ∧ Binds K fd ps ds
def MkOK (P : Program) (w : World) (K : PySem.W.Frag) (mg : Str → Option Value) (base : Heap) (CX : CXT) (k : Nat) (x : Str) (C : Addr) (ps : List Str) (dvs : List V) (sp : Sp) : Prop :=
  ∃ (f : Addr) (fd : FuncData), Mk K C f ∧ mg x = some (.ref C) ∧ FnOk P w K mg base CX k f fd ps sp ∧ Binds K fd ps [] ∧ ∃ ds, Vals dvs ds ∧ Binds K fd ps ds
theorem MkOK.mk (D : MkIn K mg x q C st ps dvs) (S : FnScope N ps (defScope st)) (len : ∀ vs H Q E, sp vs H Q E → vs.length = ps.length)
    (body : ∀ (f : Addr) (cdv : Value) (A : Around) (outer : List Env) (s : Shared) (H : Hp) (vs : List V) (Q : VK) (E : XK), Room k (A.deeper (envOfC q (defScope st) s.heap.objs.size f cdv)) → sp vs H Q E →
      ∃ t, PSs (cxOf CX0 P w K mg base N q (defScope st) f cdv A outer s H E).nox (defBody st) t ∧ t { nx := fun _ H' => Q .non H', rt := Q } (start N vs) H) : MkOK P w K mg base CX0 (k + 1) x C ps dvs sp := by
  obtain ⟨f, fd, M, hm, F, hb, hd⟩ := D
  exact ⟨f, fd, M, hm, FunD.ok0 F S len fun cdv A outer s H vs Q E hr h => body f cdv A outer s H vs Q E hr h, hb, hd⟩
theorem MkOK.mkX (D : MkIn K mg x q C st ps dvs) (S : FnScope N ps (defScope st)) (len : ∀ vs H Q E, sp vs H Q E → vs.length = ps.length)
    (body : ∀ (f : Addr) (cdv : Value) (A : Around) (outer : List Env) (s : Shared) (H : Hp) (vs : List V) (Q : VK) (E : XK), Room k (A.deeper (envOfC q (defScope st) s.heap.objs.size f cdv)) → sp vs H Q E →
      ∃ t, PSs (cxOf (L2.CX P w) P w K mg base N q (defScope st) f cdv A outer s H E) (defBody st) t ∧ t { nx := fun _ H' => Q .non H', rt := Q } (start N vs) H) : MkOK P w K mg base (L2.CX P w) (k + 1) x C ps dvs sp := by
  obtain ⟨f, fd, M, hm, F, hb, hd⟩ := D
  exact ⟨f, fd, M, hm, F.ok S len fun cdv A outer s H vs Q E hr h => body f cdv A outer s H vs Q E hr h, hb, hd⟩
end
/-! ### the calls -/
section
variable {X : Cx} {CX : CXT} {k n : Nat} {x m : Str} {ps ks : List Str} {sp : Sp} {dvs : List V} {E : XK} {o e : Expr} {es : List Expr} {kws : List Keyword} {to : TE} {ta tk : TA} {p pos apos : PySem.Pos} {C : Addr}
/-- f(e, ..), the defaults filling up -/
theorem pe_fd (G : OKD X.prog X.w X.K X.mg X.base CX k x ps dvs sp) (hr : Room k X.A) (hx : Passes CX X E) (ha : PA X (e :: es) ta) (hg : Gl X x := by rfl) (hd : (x == ("__debug__" : Str)) = false := by decide)
    (he : starEach (e :: es) X.env = (false, eval e X.env) :: starEach es X.env := by rfl) (hpl : (backTo pos (starEach es X.env)).any (·.1) = false := by rfl) :
    PE X (.Call (.Name x p) (e :: es) [] pos) (tCall sp dvs E ta) := by
  obtain ⟨f, fd, F, hm, hk, _, ds, hv, hb⟩ := G
  exact pe_call F hr hg hm hk hb hv hx ha hd he hpl
theorem pe_m {pl : Sem Bool} (ho : PE X o to) (c : Cls X.K C) (G : MOK X.prog X.w X.K X.mg X.base CX k C m ps dvs sp) (hr : Room k X.A) (hx : Passes CX X E) (ha : PA X (e :: es) ta)
    (hst : starEach (e :: es) X.env = (false, eval e X.env) :: starEach es X.env := by rfl) (hpl : (backTo pos (starEach es X.env)).any (·.1) = false := by rfl)
    (ht : eval (.Call (.Attribute o m apos) (e :: es) [] pos) X.env = (do
      let ov ← eval o X.env
      standAt apos.atName
      let (f, first) ← holding [ov] (getMethod ov m pl)
      callWith pos f first (backTo pos (starEach (e :: es) X.env)) (backToKw pos (keywordEach [] X.env))) := by rfl) :
    PE X (.Call (.Attribute o m apos) (e :: es) [] pos) (tMeth C m sp [] E to ta) := by
  obtain ⟨f, fd, hm, F, hb, _⟩ := G
  exact pe_meth ho c hm F hr hb .nil hx ha hst hpl ht
/-- .. the defaults filling up -/
theorem pe_md {pl : Sem Bool} (ho : PE X o to) (c : Cls X.K C) (G : MOK X.prog X.w X.K X.mg X.base CX k C m ps dvs sp) (hr : Room k X.A) (hx : Passes CX X E) (ha : PA X (e :: es) ta)
    (hst : starEach (e :: es) X.env = (false, eval e X.env) :: starEach es X.env := by rfl) (hpl : (backTo pos (starEach es X.env)).any (·.1) = false := by rfl)
    (ht : eval (.Call (.Attribute o m apos) (e :: es) [] pos) X.env = (do
      let ov ← eval o X.env
      standAt apos.atName
      let (f, first) ← holding [ov] (getMethod ov m pl)
      callWith pos f first (backTo pos (starEach (e :: es) X.env)) (backToKw pos (keywordEach [] X.env))) := by rfl) :
    PE X (.Call (.Attribute o m apos) (e :: es) [] pos) (tMeth C m sp dvs E to ta) := by
  obtain ⟨f, fd, hm, F, _, ds, hv, hb⟩ := G
  exact pe_meth ho c hm F hr hb hv hx ha hst hpl ht
theorem pe_m0 {pl : Sem Bool} (ho : PE X o to) (c : Cls X.K C) (G : MOK X.prog X.w X.K X.mg X.base CX k C m ps dvs sp) (hr : Room k X.A) (hx : Passes CX X E)
    (ht : eval (.Call (.Attribute o m apos) [] [] pos) X.env = (do
      let ov ← eval o X.env
      standAt apos.atName
      let (f, first) ← holding [ov] (getMethod ov m pl)
      callWith pos f first (backTo pos (starEach [] X.env)) (backToKw pos (keywordEach [] X.env))) := by rfl) :
    PE X (.Call (.Attribute o m apos) [] [] pos) (tMeth C m sp [] E to tNil) := by
  obtain ⟨f, fd, hm, F, hb, _⟩ := G
  exact pe_meth0 ho c hm F hr hb .nil hx ht
/-- C(e, ..), the defaults filling up -/
theorem pe_mkd (G : MkOK X.prog X.w X.K X.mg X.base CX k x C ps dvs sp) (hr : Room (k + 1) X.A) (hx : Passes CX X E) (ha : PA X (e :: es) ta) (hg : Gl X x := by rfl) (hd : (x == ("__debug__" : Str)) = false := by decide)
    (he : starEach (e :: es) X.env = (false, eval e X.env) :: starEach es X.env := by rfl) (hpl : (backTo pos (starEach es X.env)).any (·.1) = false := by rfl) :
    PE X (.Call (.Name x p) (e :: es) [] pos) (tMake C sp dvs E ta) := by
  obtain ⟨f, fd, M, hm, F, _, ds, hv, hb⟩ := G
  exact pe_make M F hr hg hm hb hv hx ha hd he hpl
theorem pe_mk (G : MkOK X.prog X.w X.K X.mg X.base CX k x C ps dvs sp) (hr : Room (k + 1) X.A) (hx : Passes CX X E) (ha : PA X (e :: es) ta) (hg : Gl X x := by rfl) (hd : (x == ("__debug__" : Str)) = false := by decide)
    (he : starEach (e :: es) X.env = (false, eval e X.env) :: starEach es X.env := by rfl) (hpl : (backTo pos (starEach es X.env)).any (·.1) = false := by rfl) :
    PE X (.Call (.Name x p) (e :: es) [] pos) (tMake C sp [] E ta) := by
  obtain ⟨f, fd, M, hm, F, hb, _⟩ := G
  exact pe_make M F hr hg hm hb .nil hx ha hd he hpl
/-! ### a method called with keywords -/
/-- how it binds with the keywords ks: all parameters are given, in their order -/
def KwIn (K : PySem.W.Frag) (C : Addr) (m q : Str) (st : Stmt) (ps : List Str) (dvs : List V) (n : Nat) (ks : List Str) : Prop :=
  ∃ (f : Addr) (fd : FuncData), Meth K C m f ∧ FunD K m q (defArgs st) (defBody st) (defScope st) dvs [] f fd ∧ KBn K fd ps n ks (fun us ws => us ++ ws) (fun vs zs => vs ++ zs)
def KOK (P : Program) (w : World) (K : PySem.W.Frag) (mg : Str → Option Value) (base : Heap) (CX : CXT) (k : Nat) (C : Addr) (m : Str) (ps : List Str) (n : Nat) (ks : List Str) (sp : Sp) : Prop :=
  ∃ (f : Addr) (fd : FuncData), Meth K C m f ∧ FnOk P w K mg base CX k f fd ps sp ∧ KBn K fd ps n ks (fun us ws => us ++ ws) (fun vs zs => vs ++ zs)
/-- the same def: one promise -/
theorem KOK.of {P : Program} {w : World} {K : PySem.W.Frag} {mg : Str → Option Value} {base : Heap} {q : Str} {st : Stmt} (D : KwIn K C m q st ps dvs n ks) (G : MOK P w K mg base CX k C m ps dvs sp)
    (same : ∀ f g fd gd, Meth K C m f → Meth K C m g → FunD K m q (defArgs st) (defBody st) (defScope st) dvs [] f fd → FnOk P w K mg base CX k g gd ps sp → FnOk P w K mg base CX k f fd ps sp) : KOK P w K mg base CX k C m ps n ks sp := by
  obtain ⟨f, fd, hm, F, hk⟩ := D
  obtain ⟨g, gd, hn, G, _⟩ := G
  exact ⟨f, fd, hm, same f g fd gd hm hn F G, hk⟩
theorem KOK.mkX {P : Program} {w : World} {K : PySem.W.Frag} {mg : Str → Option Value} {base : Heap} {q : Str} {st : Stmt} {N : List Str} (D : KwIn K C m q st ps dvs n ks) (S : FnScope N ps (defScope st)) (len : ∀ vs H Q E, sp vs H Q E → vs.length = ps.length)
    (body : ∀ (f : Addr) (cdv : Value) (A : Around) (outer : List Env) (s : Shared) (H : Hp) (vs : List V) (Q : VK) (E : XK), Room k (A.deeper (envOfC q (defScope st) s.heap.objs.size f cdv)) → sp vs H Q E →
      ∃ t, PSs (cxOf (L2.CX P w) P w K mg base N q (defScope st) f cdv A outer s H E) (defBody st) t ∧ t { nx := fun _ H' => Q .non H', rt := Q } (start N vs) H) : KOK P w K mg base (L2.CX P w) (k + 1) C m ps n ks sp := by
  obtain ⟨f, fd, hm, F, hb⟩ := D
  exact ⟨f, fd, hm, F.ok S len fun cdv A outer s H vs Q E hr h => body f cdv A outer s H vs Q E hr h, hb⟩
/-- o.m(e, .., k = v, ..): n counts the instance, too -/
def tMethN (C : Addr) (m : Str) (n nk : Nat) (sp : Sp) (E : XK) (to : TE) (ta tk : TA) : TE := fun σ H Q => to σ H fun x H1 => ∃ a dx fs, x = .ref a ∧ H1 a = some (.ins C dx fs) ∧ fs.lookup m = none ∧
  ta σ H1 fun vs H2 => tk σ H2 fun zs H3 => vs.length + 1 = n ∧ zs.length = nk ∧ sp (x :: (vs ++ zs)) H3 Q E
theorem pe_mk_kw {pl : Sem Bool} (ho : PE X o to) (c : Cls X.K C) (G : KOK X.prog X.w X.K X.mg X.base CX k C m ps n ks sp) (hr : Room k X.A) (hx : Passes CX X E) (ha : PA X (e :: es) ta) (hkw : PK X kws tk)
    (hkp : ∀ f, Meth X.K C m f → PySem.W.keepIn X.K (.ref f) = true)
    (hall : (backToKw pos (keywordEach kws X.env)).all (·.1.isSome) = true := by rfl) (hks : (backToKw pos (keywordEach kws X.env)).filterMap (·.1) = ks := by rfl)
    (hst : starEach (e :: es) X.env = (false, eval e X.env) :: starEach es X.env := by rfl)
    (hpl : ((backTo pos (starEach (e :: es) X.env)).any (·.1) || (backToKw pos (keywordEach kws X.env)).any (·.1.isNone)) = false := by rfl)
    (ht : eval (.Call (.Attribute o m apos) (e :: es) kws pos) X.env = (do
      let ov ← eval o X.env
      standAt apos.atName
      let (f, first) ← holding [ov] (getMethod ov m pl)
      callWith pos f first (backTo pos (starEach (e :: es) X.env)) (backToKw pos (keywordEach kws X.env))) := by rfl) :
    PE X (.Call (.Attribute o m apos) (e :: es) kws pos) (tMethN C m n ks.length sp E to ta tk) := by
  obtain ⟨f, fd, hm, F, hb⟩ := G
  refine ⟨fun pins s σ H Q I h => ?_⟩
  refine PySem.W.methodCall_KW (pl := pl) (thn (ho.run pins s σ H _ I h) fun u s1 ⟨x, H1, I1, rx, a, dx, fs, ex, ea, l, q⟩ => ?_) ht
  subst ex
  obtain rfl : u = Value.ref a := rx
  refine getmeth_ok I1 ea c hm l ?_
  refine PySem.W.callWith_KW (first := [.ref a]) (h₀ := X.base) I.ok.mod.kin hm.kp hall (thn (ha.run pos pins s1 σ H1 _ I1 q) fun us s2 ⟨vs, H2, I2, r, q2⟩ => ?_) hpl hst
  refine thn (hkw.run pos pins s2 σ H2 _ I2 q2) fun ws s3 ⟨zs, H3, I3, rz, l1, l2, q3⟩ => ⟨I3.kIn, ?_⟩
  rw [hks]
  exact run_fnN (us := .ref a :: us) (vs := .ref a :: vs) F hr hb hx I3 (.cons rfl r) rz (by simpa using l1) l2 q3
/-- binding of a positional default by its keyword -/
theorem FunD.kbinds1 {K : PySem.W.Frag} {x q : Str} {params : Arguments} {body : List Stmt} {scope : Scope} {kws : List (Str × V)} {f : Addr} {fd : FuncData} (F : FunD K x q params body scope dvs kws f fd) (n : Nat) (ks : List Str) (hd : dvs ≠ [])
    (h : ∀ (T : Addr) (kV doc pm : Value) (an : Option Addr) (cdv ct : Value) (us its ws : List Value), us.length = n → its.length = dvs.length → ws.length = ks.length →
      ∃ k, bindArgs (PySem.W.fnOf x q params body scope (.ref T) kV doc pm an cdv ct) ⟨us, ks.zip ws⟩ = seqItems? (.ref T) >>= k ∧ k (some its.toArray) = pure (ps.zip (us ++ ws))) :
    KBn K fd ps n ks (fun us ws => us ++ ws) (fun vs zs => vs ++ zs) := by
  obtain ⟨oc, od, dV, kV, doc, pm, an, cdv, ct, osl, rfl, lk, hcd, hD, hK⟩ := F.ex
  rcases hD with ⟨e, _⟩ | ⟨_, T, o, its, m, rfl, lT, oT, rT⟩
  · exact absurd e hd
  · refine ⟨fun s us ws X l1 l2 => ?_, fun r1 r2 => r1.append r2⟩
    obtain ⟨k, e1, e2⟩ := h T kV doc pm an cdv ct us its ws l1 rT.length.symm l2
    refine BindsTo.of_looks fun M => ?_
    rw [e1]
    exact looks_items X lT oT (.of_pure e2)
end
/-! ### own exceptions with two fields -/
def spIni2 (C : Addr) (f g : Str) : Sp := sp3 fun x v y H Q _ => ∃ a, x = .ref a ∧ H a = some (exo a C none) ∧ ∀ dx H', H dx = none → dx ≠ a → H' a = some (exo a C (some dx)) → H' dx = some (exd dx [(g, y), (f, v)]) → (∀ b, b ≠ a → b ≠ dx → H' b = H b) → Q .non H'
def OKx2 (P : Program) (w : World) (K : PySem.W.Frag) (mg : Str → Option Value) (base : Heap) (x f g : Str) (C : Addr) : Prop :=
  mg x = some (.ref C) ∧ OexC K C ∧ ∃ (fI : Addr) (fd : FuncData), PySem.W.findIn K (.ref C) "__init__" = some (some (.ref fI)) ∧ PySem.W.typeIn K (.ref fI) = some (.type "function") ∧
    FnOk P w K mg base CX0 1 fI fd ["self", f, g] (spIni2 C f g) ∧ Binds K fd ["self", f, g] []
theorem ini_ok2 {P : Program} {w : World} {K : PySem.W.Frag} {mg : Str → Option Value} {base : Heap} {C fI : Addr} {f g q : Str} {st : Stmt} {fd : FuncData} (F : Fun K "__init__" q st fI fd) (S : FnScope ["self", f, g] ["self", f, g] (defScope st))
    (ox : OexC K C) (noF : PySem.W.findIn K (.ref C) f = some none) (noG : PySem.W.findIn K (.ref C) g = some none)
    (hb : ∀ (cdv : Value) (A : Around) (outer : List Env) (s : Shared) (H : Hp) (E : XK), PSs (cxOf CX0 P w K mg base ["self", f, g] q (defScope st) fI cdv A outer s H E).nox (defBody st) (tSeq (tOst K f (tVar 0) (tVar 1)) (tOst K g (tVar 0) (tVar 2)))) :
    FnOk P w K mg base CX0 1 fI fd ["self", f, g] (spIni2 C f g) := by
  refine F.ok S (fun vs H Q E h => len3 vs H Q E h) fun cdv A outer s H vs Q E hr h => ⟨_, hb cdv A outer s H E, ?_⟩
  obtain ⟨x, v, y, rfl, a, rfl, ha, q⟩ := h
  refine ⟨v, rfl, .ref a, rfl, a, C, rfl, ox, noF, .inl ⟨ha, fun dx n ne => ?_⟩⟩
  refine ⟨y, rfl, .ref a, rfl, a, C, rfl, ox, noG, .inr ⟨dx, _, upd_same, by rw [upd_ne ne, upd_same], by show 1 ≤ 900; decide, ?_⟩⟩
  refine q dx _ n ne (by rw [upd_ne ne.symm, upd_same]) upd_same fun b h1 h2 => by rw [upd_ne h2, upd_ne h1, upd_ne h2]
/-- C(e, ..): an error whose dict, new, holds the two fields, the later one first -/
def tMkE2 (C : Addr) (f g : Str) (ta : TA) : L2.St → Hp → XK → Prop := fun σ H Q => ta σ H fun vs H1 => ∃ v y, vs = [v, y] ∧ ∀ d, H1 d = none → Q (.ref C) (some d) (upd H1 d (.xd [(g, y), (f, v)]))
theorem pmk_E2 {X : Cx} {x f g : Str} {C : Addr} {e : Expr} {es : List Expr} {ta : TA} {p pos : PySem.Pos} {k : Nat} (G : OKx2 X.prog X.w X.K X.mg X.base x f g C) (hr : Room (k + 2) X.A) (ha : PA X (e :: es) ta) (hg : Gl X x := by rfl) (hdb : (x == ("__debug__" : Str)) = false := by decide)
    (he : starEach (e :: es) X.env = (false, eval e X.env) :: starEach es X.env := by rfl) (hpl : (backTo pos (starEach es X.env)).any (·.1) = false := by rfl) :
    PMk X (.Call (.Name x p) (e :: es) [] pos) (tMkE2 C f g ta) := by
  obtain ⟨hm, ox, fI, fd, iC, tI, F, hb⟩ := G
  intro pins s σ H Q I h
  refine pmk_oex (k := 1) (dvs := []) ox iC tI F (hr.mono (by omega)) hb .nil pass0 hg hm (pa_mono ha) hdb he hpl pins s σ H Q I ⟨_, h, fun vs H1 hq => ?_⟩
  obtain ⟨v, y, rfl, q⟩ := hq
  refine ⟨by show 2 ≤ 1000; omega, fun a na => ⟨.ref a, v, y, rfl, a, rfl, upd_same, fun dx H' nd ne h1 h2 h3 => ⟨rfl, dx, [(g, y), (f, v)], h1, h2, ?_, ?_⟩⟩⟩
  · rw [upd_ne ne] at nd; exact nd
  · have n2 : H1 dx = none := by rw [upd_ne ne] at nd; exact nd
    have e1 : upd (del H' a) dx (.xd [(g, y), (f, v)]) = upd H1 dx (.xd [(g, y), (f, v)]) := by
      funext b
      by_cases hb : b = dx
      · rw [hb, upd_same, upd_same]
      · rw [upd_ne hb, upd_ne hb]
        by_cases ha : b = a
        · rw [ha, del_same, na]
        · rw [del_ne ha, h3 b ha hb, upd_ne ha]
    rw [e1]
    exact q dx n2
/-- the wish for an error of the class at C whose dict, new, holds fs -/
def Rzf (E : XK) (H : Hp) (C : Addr) (fs : List (Str × V)) : Prop := ∀ d H', H d = none → Same H H' → H' d = some (.xd fs) → E (.ref C) (some d) H'
theorem Rzf.mono {E : XK} {H H1 : Hp} {C : Addr} {fs : List (Str × V)} (h : Rzf E H C fs) (s : Same H H1) : Rzf E H1 C fs := fun d H' n s' e => h d H' (s.free n) (s.trans s') e
theorem Rzf.at {E : XK} {H : Hp} {C : Addr} {fs : List (Str × V)} (h : Rzf E H C fs) {d : Addr} (n : H d = none) : E (.ref C) (some d) (upd H d (.xd fs)) :=
  h d _ n (fun b o e => by rw [upd_ne (ne_of_none e n)]; exact e) upd_same
section
variable {σ : L2.St} {H : Hp} {Q : XK} {C : Addr} {f g : Str} {ta : TA} {v y : V} {P : V → V → Prop}
theorem i_mkE2 (q : ta σ H fun vs H1 => ∃ v y, vs = [v, y] ∧ ∀ d, H1 d = none → Q (.ref C) (some d) (upd H1 d (.xd [(g, y), (f, v)]))) : tMkE2 C f g ta σ H Q := q
theorem i_ex2 (q : P v y) : ∃ a b, [v, y] = [a, b] ∧ P a b := ⟨v, y, rfl, q⟩
end
/-! ### what remains of GOK -/
theorem GOK.mk {P : Program} {w : World} {K : PySem.W.Frag} {mg : Str → Option Value} {base : Heap} {x : Str} {st : Stmt} {N ps : List Str} {k : Nat} {sp : Sp} (D : DefIn K mg x st ps) (S : FnScope N ps (defScope st)) (len : ∀ vs H Q E, sp vs H Q E → vs.length = ps.length)
    (body : ∀ (f : Addr) (cdv : Value) (A : Around) (outer : List Env) (s : Shared) (H : Hp) (vs : List V) (Q : VK) (E : XK), A.guards = some [] → Room k (A.deeper (envOfC x (defScope st) s.heap.objs.size f cdv)) → sp vs H Q E →
      ∃ t, PSs (cxOf CX0 P w K mg base N x (defScope st) f cdv A outer s H E).nox (defBody st) t ∧ t { nx := fun _ H' => Q .non H', rt := Q } (start N vs) H) : GOK P w K mg base CX0 (k + 1) x ps sp := by
  obtain ⟨f, fd, F, hm, hb⟩ := D
  refine ⟨f, fd, gok_mk F S len fun cdv A outer s H vs Q E hg hr h => ?_, hm, F.kp, hb⟩
  obtain ⟨t, z, e⟩ := body f cdv A outer s H vs Q E hg hr h
  exact ⟨t, z.nox, e⟩
end Fg
/-! Data in the heap: what a value is, and what a step adds to what is known. -/
namespace Fg
open PySem PySem.Spec PyProof.Rows L2
abbrev dS (l : List Nat) : PyData := .str ⟨l.toArray⟩
mutual
inductive At (H : Hp) : V → PyData → Prop
  | non : At H .non .none
  | bl (b : Bool) : At H (.bl b) (.bool b)
  | int (i : Int) : At H (.int i) (.int i)
  | str (l : List Nat) : l.length ≤ 10000 → At H (S l) (dS l)
  | lst {a : Addr} {xs : List V} {ds : List PyData} : H a = some (.lst xs) → xs.length ≤ 10000 → AtAll H xs ds → At H (.ref a) (.list ds)
  | tup {a : Addr} {xs : List V} {ds : List PyData} : H a = some (.tup xs) → xs.length ≤ 10000 → AtAll H xs ds → At H (.ref a) (.tuple ds)
  | dct {a : Addr} : H a = some (.dK []) → At H (.ref a) (.dict [])
inductive AtAll (H : Hp) : List V → List PyData → Prop
  | nil : AtAll H [] []
  | cons {v : V} {vs : List V} {d : PyData} {ds : List PyData} : At H v d → AtAll H vs ds → AtAll H (v :: vs) (d :: ds)
end
section
variable {H H' : Hp}
mutual
theorem At.mono (s : Same H H') : ∀ (d : PyData) (v : V), At H v d → At H' v d
  | .none, _, h => by cases h; exact .non
  | .bool b, _, h => by cases h; exact .bl b
  | .int i, _, h => by cases h; exact .int i
  | .str x, _, h => by
    cases h with
    | str l hl => exact .str l hl
  | .list ds, _, h => by
    cases h with
    | lst e l a => exact .lst (s _ _ e) l (AtAll.mono s ds _ a)
  | .tuple ds, _, h => by
    cases h with
    | tup e l a => exact .tup (s _ _ e) l (AtAll.mono s ds _ a)
  | .dict kvs, _, h => by
    cases h with
    | dct e => exact .dct (s _ _ e)
theorem AtAll.mono (s : Same H H') : ∀ (ds : List PyData) (vs : List V), AtAll H vs ds → AtAll H' vs ds
  | [], _, h => by cases h; exact .nil
  | d :: ds, _, h => by
    cases h with
    | cons h1 h2 => exact .cons (At.mono s d _ h1) (AtAll.mono s ds _ h2)
end
theorem At.same {v : V} {d : PyData} (h : At H v d) (s : Same H H') : At H' v d := At.mono s d v h
theorem AtAll.same {vs : List V} {ds : List PyData} (h : AtAll H vs ds) (s : Same H H') : AtAll H' vs ds := AtAll.mono s ds vs h
mutual
theorem At.dp (K : PySem.W.Frag) : ∀ (d : PyData) (v : V), At H v d → d.hasDict = false → Dp K H v d
  | .none, _, h, _ => by cases h; exact .non
  | .bool b, _, h, _ => by cases h; exact .bl b
  | .int i, _, h, _ => by cases h; exact .int i
  | .str x, _, h, _ => by cases h; exact .str _
  | .list ds, _, h, n => by
    cases h with
    | lst e l a => exact .lst (.inl (.inl e)) (AtAll.dp K ds _ a n)
  | .tuple ds, _, h, n => by
    cases h with
    | tup e l a => exact .tup (.inl (.inl e)) (AtAll.dp K ds _ a n)
  | .dict kvs, _, h, n => by cases n
theorem AtAll.dp (K : PySem.W.Frag) : ∀ (ds : List PyData) (vs : List V), AtAll H vs ds → PyData.hasDictAll ds = false → DpAll K H vs ds
  | [], _, h, _ => by cases h; exact .nil
  | d :: ds, _, h, n => by
    cases h with
    | cons h1 h2 =>
      have n' : (d.hasDict || PyData.hasDictAll ds) = false := n
      rw [Bool.or_eq_false_iff] at n'
      exact .cons (At.dp K d _ h1 n'.1) (AtAll.dp K ds _ h2 n'.2)
end
theorem AtAll.len : ∀ {vs : List V} {ds : List PyData}, AtAll H vs ds → vs.length = ds.length
  | _, _, .nil => rfl
  | _, _, .cons _ r => congrArg Nat.succ r.len
theorem AtAll.get : ∀ {vs : List V} {ds : List PyData}, AtAll H vs ds → ∀ {i : Nat} {v : V}, vs[i]? = some v → ∃ d, ds[i]? = some d ∧ At H v d
  | _, _, .nil, _, _, e => by simp at e
  | _, _, .cons h r, 0, _, e => by
    cases (show some _ = some _ from e)
    exact ⟨_, rfl, h⟩
  | _, _, .cons h r, i + 1, v, e => r.get (i := i) e
theorem AtAll.at : ∀ {vs : List V} {ds : List PyData}, AtAll H vs ds → ∀ {i : Nat} {d : PyData}, ds[i]? = some d → ∃ v, vs[i]? = some v ∧ At H v d
  | _, _, .nil, _, _, e => by simp at e
  | _, _, .cons h r, 0, _, e => by
    cases (show some _ = some _ from e)
    exact ⟨_, rfl, h⟩
  | _, _, .cons h r, i + 1, v, e => r.at (i := i) e
theorem AtAll.app : ∀ {vs ws : List V} {ds es : List PyData}, AtAll H vs ds → AtAll H ws es → AtAll H (vs ++ ws) (ds ++ es)
  | _, _, _, _, .nil, r => r
  | _, _, _, _, .cons h t, r => .cons h (t.app r)
theorem AtAll.one {v : V} {d : PyData} (h : At H v d) : AtAll H [v] [d] := .cons h .nil
theorem AtAll.take : ∀ {vs : List V} {ds : List PyData}, AtAll H vs ds → ∀ (n : Nat), AtAll H (vs.take n) (ds.take n)
  | _, _, .nil, n => by simp; exact .nil
  | _, _, .cons h r, 0 => .nil
  | _, _, .cons h r, n + 1 => .cons h (r.take n)
theorem AtAll.drop : ∀ {vs : List V} {ds : List PyData}, AtAll H vs ds → ∀ (n : Nat), AtAll H (vs.drop n) (ds.drop n)
  | _, _, .nil, n => by simp; exact .nil
  | _, _, .cons h r, 0 => .cons h r
  | _, _, .cons h r, n + 1 => r.drop n
theorem AtAll.map {α : Type} {f : α → V} {g : α → PyData} (h : ∀ x, At H (f x) (g x)) : ∀ l : List α, AtAll H (l.map f) (l.map g)
  | [] => .nil
  | x :: r => .cons (h x) (AtAll.map h r)
theorem AtAll.rep {v : V} {d : PyData} (h : At H v d) : ∀ n : Nat, AtAll H (List.replicate n v) (List.replicate n d)
  | 0 => .nil
  | n + 1 => .cons h (AtAll.rep h n)
end
/-! ### A: what is known, G: all that stands -/
structure Ext (A G A' G' : Hp) : Prop where
  aa : Same A A'
  ag : Same A' G'
  gg : Same G G'
  nw : ∀ b, A b = none → A' b ≠ none → G b = none
section
variable {A G A1 G1 A2 G2 H : Hp} {p : Addr} {o o' : HO} {v : V} {d : PyData}
theorem Ext.refl (s : Same A G) : Ext A G A G := ⟨fun _ _ e => e, s, fun _ _ e => e, fun b h1 h2 => absurd h1 h2⟩
theorem Ext.trans (x : Ext A G A1 G1) (y : Ext A1 G1 A2 G2) : Ext A G A2 G2 := by
  refine ⟨x.aa.trans y.aa, y.ag, x.gg.trans y.gg, fun b h1 h2 => ?_⟩
  by_cases h : A1 b = none
  · exact x.gg.free (y.nw b h h2)
  · exact x.nw b h1 h
/-- something new, known -/
theorem Ext.new (x : Ext A G A1 G1) (n : G1 p = none) : Ext A G (upd A1 p o) (upd G1 p o) := by
  have na : A1 p = none := x.ag.free n
  refine ⟨Same.upd x.aa (x.gg.trans (fun _ _ e => e) |>.free n |> fun z => ?_), fun b u e => ?_, Same.upd x.gg (x.gg.free n), fun b h1 h2 => ?_⟩
  · by_cases h : A p = none
    · exact h
    · exact absurd na (by
        intro z
        cases e : A p with
        | none => exact h e
        | some u => rw [x.aa _ _ e] at z; cases z)
  · by_cases hb : b = p
    · rw [hb, upd_same] at e
      rw [hb, upd_same]; exact e
    · rw [upd_ne hb] at e
      rw [upd_ne hb]; exact x.ag _ _ e
  · by_cases hb : b = p
    · rw [hb]; exact x.gg.free n
    · rw [upd_ne hb] at h2
      exact x.nw b h1 h2
/-- something new, hidden -/
theorem Ext.hid (x : Ext A G A1 G1) (n : G1 p = none) : Ext A G A1 (upd G1 p o) :=
  ⟨x.aa, x.ag.trans (same_upd n), x.gg.trans (same_upd n), x.nw⟩
/-- what is hidden, and was not there at first, changes -/
theorem Ext.put (x : Ext A G A1 G1) (n : G p = none) (na : A1 p = none) : Ext A G A1 (upd G1 p o) :=
  ⟨x.aa, fun b u e => by rw [upd_ne (ne_of_none e na)]; exact x.ag _ _ e, Same.upd x.gg n, x.nw⟩
/-- what was hidden is known -/
theorem Ext.show (x : Ext A G A1 G1) (n : G p = none) (sa : Same A G) (e : G1 p = some o) : Ext A G (upd A1 p o) G1 := by
  have na : A p = none := sa.free n
  refine ⟨Same.upd x.aa na, fun b u e1 => ?_, x.gg, fun b h1 h2 => ?_⟩
  · by_cases hb : b = p
    · rw [hb, upd_same] at e1
      rw [hb, e]; exact e1
    · rw [upd_ne hb] at e1
      exact x.ag _ _ e1
  · by_cases hb : b = p
    · rw [hb]; exact n
    · rw [upd_ne hb] at h2
      exact x.nw b h1 h2
/-- what is hidden stays hidden -/
theorem Ext.free (x : Ext A G A1 G1) (n : A p = none) (e : G p ≠ none) : A1 p = none := by
  by_cases h : A1 p = none
  · exact h
  · exact absurd (x.nw p n h) e
theorem Ext.up (x : Ext A G A1 G1) (h : At A1 v d) : At G1 v d := h.same x.ag
theorem Ext.old (x : Ext A G A1 G1) (h : At A v d) : At A1 v d := h.same x.aa
end
/-! ### comprehensions whose elements are data -/
section
variable {K : PySem.W.Frag} {σ : L2.St} {A G : Hp} {Q : VK} {te tl : TE} {tt : TT} {ta : TA} {j : Nat} {a : Addr} {xs : List V} {vs : List Nat}
/-- behind i turns: the list at Dl, hidden, holds data -/
def Cw (A G : Hp) (Dl : Addr) (f : Nat → PyData) (i : Nat) (G1 : Hp) : Prop := G Dl = none ∧ ∃ A1 l, Ext A G A1 G1 ∧ A1 Dl = none ∧ G1 Dl = some (.lst l) ∧ AtAll A1 l ((List.range i).map f)
theorem cw_start (s : Same A G) {Dl : Addr} {f : Nat → PyData} (n : G Dl = none) : Cw A G Dl f 0 (upd G Dl (.lst [])) :=
  ⟨n, A, [], (Ext.refl s).hid n, s.free n, upd_same, .nil⟩
theorem cw_turn {Dl : Addr} {f : Nat → PyData} {i : Nat} {G1 : Hp} {σ2 : L2.St} (w : Cw A G Dl f i G1) (hi : i < 10000)
    (he : ∀ A1 G1, Ext A G A1 G1 → ∀ QV : VK, (∀ A2 G2 v, Ext A1 G1 A2 G2 → At A2 v (f i) → QV v G2) → te σ2 G1 QV) :
    tYes σ2 G1 fun b H3 => if b = true then te σ2 H3 fun y H4 => ∃ acc, H4 Dl = some (.lst acc) ∧ acc.length < sizeLine ∧ Cw A G Dl f (i + 1) (upd H4 Dl (.lst (acc ++ [y]))) else Cw A G Dl f (i + 1) H3 := by
  obtain ⟨n, A1, l, x, na, e, al⟩ := w
  refine i_yes ?_
  rw [if_pos rfl]
  refine he A1 G1 x _ fun A2 G2 v y hv => ?_
  have na2 : A2 Dl = none := y.free na (by rw [e]; simp)
  have ll : l.length = i := by rw [al.len]; simp
  refine ⟨l, y.gg _ _ e, Nat.lt_of_le_of_lt (Nat.le_of_eq ll) (Nat.lt_trans hi (by decide)), n, A2, l ++ [v], (x.trans y).put n na2, na2, upd_same, ?_⟩
  rw [List.range_succ, List.map_append]
  exact (al.same y.aa).app (.one hv)
theorem cw_end {Dl : Addr} {f : Nat → PyData} {n : Nat} {G1 : Hp} (w : Cw A G Dl f n G1) (sa : Same A G) (hn : n ≤ 10000) : ∃ A1, Ext A G A1 G1 ∧ At A1 (.ref Dl) (.list ((List.range n).map f)) ∧ ∃ l, G1 Dl = some (.lst l) ∧ A1 Dl = some (.lst l) ∧ AtAll A1 l ((List.range n).map f) ∧ l.length = n := by
  obtain ⟨h, A1, l, x, na, e, al⟩ := w
  have ll : l.length = n := by rw [al.len]; simp
  have al2 := al.same (same_upd (o := .lst l) na)
  exact ⟨_, x.show h sa e, .lst upd_same (by omega) al2, l, e, upd_same, al2, ll⟩
/-- [te for j in a list] -/
theorem c_lstD {ds : List PyData} (sa : Same A G) (ha : ∀ R : VK, R (.ref a) G → tl σ G R) (hx : SqL K G a xs) (hd : AtAll A xs ds) (hn : xs.length ≤ 10000) (f : PyData → PyData) (hw : ∀ x, wipe ((wipe σ vs).set j (some x)) vs = wipe σ vs)
    (he : ∀ x d A1 G1, d ∈ ds → At A1 x d → Ext A G A1 G1 → ∀ QV : VK, (∀ A2 G2 v, Ext A1 G1 A2 G2 → At A2 v (f d) → QV v G2) → te ((wipe σ vs).set j (some x)) G1 QV)
    (q : ∀ Dl A1 G1 l, Ext A G A1 G1 → G1 Dl = some (.lst l) → A1 Dl = some (.lst l) → AtAll A1 l (ds.map f) → l.length = ds.length → Q (.ref Dl) G1) : tLc (iAny K tl) (gName j) tYes te vs σ G Q := by
  have hl := hd.len
  have e1 : (List.range ds.length).map (fun i => f (ds.getD i .none)) = ds.map f := by
    refine List.ext_getElem? fun i => ?_
    rw [List.getElem?_map, List.getElem?_map]
    by_cases h : i < ds.length
    · rw [List.getElem?_range h, Option.map_some, List.getD_eq_getElem?_getD, List.getElem?_eq_getElem h]
      rfl
    · rw [List.getElem?_eq_none (by simpa using h), List.getElem?_eq_none (by omega)]
      rfl
  refine ha _ (.inl ⟨a, xs, rfl, hx, fun Dl nD => ?_⟩)
  refine lc_list (xs := xs) (Cw A G Dl fun i => f (ds.getD i .none)) (cw_start sa nD) (fun i H' hi p => ?_) (fun i x H' hi p => ?_) (fun H' p => ?_)
  · obtain ⟨_, _, _, x, _⟩ := p
    exact x.gg.seq hx
  · have hlt := (List.getElem?_eq_some_iff.mp hi).1
    obtain ⟨d, hd1, hd2⟩ := hd.get hi
    refine ⟨hw _, cw_turn p (by omega) fun A1 G1 y QV k => he x d A1 G1 (List.mem_of_getElem? hd1) (hd2.same y.aa) y QV fun A2 G2 v z hv => k A2 G2 v z ?_⟩
    rw [List.getD_eq_getElem?_getD, hd1]
    exact hv
  · rw [hl] at p
    obtain ⟨A1, y, _, l, e, ea, al, ll⟩ := cw_end p sa (by omega)
    rw [e1] at al
    exact q Dl A1 H' l y e ea al ll
/-- [te for j in a tuple] -/
theorem c_tupD {ds : List PyData} (sa : Same A G) (ha : ∀ R : VK, R (.ref a) G → tl σ G R) (hx : SqT K G a xs) (hd : AtAll A xs ds) (hn : xs.length ≤ 10000) (f : PyData → PyData) (hw : ∀ x, wipe ((wipe σ vs).set j (some x)) vs = wipe σ vs)
    (he : ∀ x d A1 G1, d ∈ ds → At A1 x d → Ext A G A1 G1 → ∀ QV : VK, (∀ A2 G2 v, Ext A1 G1 A2 G2 → At A2 v (f d) → QV v G2) → te ((wipe σ vs).set j (some x)) G1 QV)
    (q : ∀ Dl A1 G1 l, Ext A G A1 G1 → G1 Dl = some (.lst l) → A1 Dl = some (.lst l) → AtAll A1 l (ds.map f) → l.length = ds.length → Q (.ref Dl) G1) : tLc (iAny K tl) (gName j) tYes te vs σ G Q := by
  have hl := hd.len
  have e1 : (List.range ds.length).map (fun i => f (ds.getD i .none)) = ds.map f := by
    refine List.ext_getElem? fun i => ?_
    rw [List.getElem?_map, List.getElem?_map]
    by_cases h : i < ds.length
    · rw [List.getElem?_range h, Option.map_some, List.getD_eq_getElem?_getD, List.getElem?_eq_getElem h]
      rfl
    · rw [List.getElem?_eq_none (by simpa using h), List.getElem?_eq_none (by omega)]
      rfl
  refine ha _ (.inr (.inl ⟨a, xs, rfl, hx, fun Dl nD => ?_⟩))
  refine lc_tup (xs := xs) (Cw A G Dl fun i => f (ds.getD i .none)) (cw_start sa nD) (fun i H' hi p => ?_) (fun i x H' hi p => ?_) (fun H' p => ?_)
  · obtain ⟨_, _, _, x, _⟩ := p
    exact Same.tup x.gg hx
  · have hlt := (List.getElem?_eq_some_iff.mp hi).1
    obtain ⟨d, hd1, hd2⟩ := hd.get hi
    refine ⟨hw _, cw_turn p (by omega) fun A1 G1 y QV k => he x d A1 G1 (List.mem_of_getElem? hd1) (hd2.same y.aa) y QV fun A2 G2 v z hv => k A2 G2 v z ?_⟩
    rw [List.getD_eq_getElem?_getD, hd1]
    exact hv
  · rw [hl] at p
    obtain ⟨A1, y, _, l, e, ea, al, ll⟩ := cw_end p sa (by omega)
    rw [e1] at al
    exact q Dl A1 H' l y e ea al ll
end
/-! ### rules by name -/
section
variable {X : Cx} (K : PySem.W.Frag) {e o value : Expr} {es : List Expr} {te to tv : TE} {ta : TA} {f : Str} {p pos apos cpos tpos pos' : PySem.Pos}
theorem peFld (he : PE X e te) (h : X.K = K := by rfl) (hb : attributeBase e f X.env (eval e X.env) = eval e X.env := by rfl) : PE X (.Attribute e f pos) (tFld K te f) := h ▸ pe_fld he hb
theorem psFld (ho : PE X o to) (hv : PE X value tv) (h : X.K = K := by rfl) (hs : swapsWith value (some (.Attribute o f pos')) pos.line X.env = pure false := by rfl) : PS X (.Assign [.Attribute o f pos'] value pos) (sFld K to tv f) := h ▸ ps_fld ho hv hs
theorem psFldAug {op : Operator} {rd : V → V → Hp → VK → Prop} (ho : PE X o to) (hv : PE X value tv) (hop : InOp X op rd) (h : X.K = K := by rfl) : PS X (.AugAssign (.Attribute o f tpos) op value pos) (sFldAug K to tv rd f) := h ▸ ps_fldaug ho hv hop
def rSplit : V → List V → Hp → VK → Prop := fun x xs H Q => ∃ a b, x = .str a ∧ xs = [.str b] ∧ (b.length == 0) = false ∧ a.length + 2 ≤ sizeLine ∧ rNewStrs (Txt.split a b) H Q
def tSpl (K : PySem.W.Frag) (to : TE) (t : TA) : TE := tBM K "str" rSplit to t
theorem peSplit (ho : PE X o to) (ha : PA X (e :: es) ta) (h : X.K = K := by rfl) (hbase : attributeBase o "split" X.env (eval o X.env) = eval o X.env := by rfl)
    (hfew : ((backTo cpos (starEach (e :: es) X.env)).all (fun x => !x.1) && (backToKw cpos (keywordEach [] X.env)).all (fun x => x.1.isSome)
      && decide ((e :: es).length + ([] : List Keyword).length + (if ([] : List Keyword).isEmpty then 0 else 1) < 30)) = true := by rfl)
    (hline : (apos.endLine == cpos.line) = true := by rfl) (hs : starEach (e :: es) X.env = (false, eval e X.env) :: starEach es X.env := by rfl) (hplain : (backTo cpos (starEach es X.env)).any (·.1) = false := by rfl) :
    PE X (.Call (.Attribute o "split" apos) (e :: es) [] cpos) (tSpl K to ta) := h ▸ pe_bm PySem.F.plainAttrs_str PySem.F.slot_str_split PySem.F.type_str_split mt_split ho ha hbase hfew hline hs hplain
theorem cIsiT (h : X.K = K := by rfl) : CallR X (.builtin "isinstance") (rIsiT K) := h ▸ call_isiT
theorem opInD (hu : X.A.units + 65 < cLine) (h : X.K = K := by rfl) : OpR X (compareOp .In) (rInD K) := h ▸ op_inD hu
theorem opNotInD (hu : X.A.units + 65 < cLine) (h : X.K = K := by rfl) : OpR X (compareOp .NotIn) (rNotInD K) := h ▸ op_notInD hu
theorem cReprD (hgu : X.A.guards = some []) (hu : X.A.units + 64 < cLine) (h : X.K = K := by rfl) : CallR X (.builtin "repr") (rReprD K) := h ▸ call_reprD hgu hu
end
/-! ### readings -/
section
variable {K : PySem.W.Frag} {σ : L2.St} {H : Hp} {Q : VK} {Qs : L2.St → Hp → Prop} {D : Ends} {te to tv : TE} {ta : TA} {a C dx : Addr} {fs : List (Str × V)} {f m : Str} {v y : V} {xs : List V} {sp : Sp} {dvs : List V} {E : XK} {z w : Int}
theorem i_fld {P : V → Prop} (h : H a = some (.ins C dx fs)) (c : Cls K C) (n : NoAttr K C f) (l : fs.lookup f = some v) (q : P v) : ∃ a' C dx fs v, V.ref a = .ref a' ∧ H a' = some (.ins C dx fs) ∧ Cls K C ∧ NoAttr K C f ∧ fs.lookup f = some v ∧ P v :=
  ⟨a, C, dx, fs, v, rfl, h, c, n, l, q⟩
theorem i_tfld (q : te σ H fun x H1 => ∃ a C dx fs v, x = .ref a ∧ H1 a = some (.ins C dx fs) ∧ Cls K C ∧ NoAttr K C f ∧ fs.lookup f = some v ∧ Q v H1) : tFld K te f σ H Q := q
theorem i_sfld (q : tv σ H fun y H1 => to σ H1 fun x H2 => ∃ a C dx fs, x = .ref a ∧ H2 a = some (.ins C dx fs) ∧ Cls K C ∧ NoAttr K C f ∧ fs.length < 1000 ∧ D.nx σ (upd H2 a (.ins C dx (putF f y fs)))) : sFld K to tv f D σ H := q
theorem i_put {P : Addr → Addr → Addr → List (Str × V) → Prop} (h : H a = some (.ins C dx fs)) (c : Cls K C) (n : NoAttr K C f) (l : fs.length < 1000) (q : P a C dx fs) :
    ∃ a' C dx fs, V.ref a = .ref a' ∧ H a' = some (.ins C dx fs) ∧ Cls K C ∧ NoAttr K C f ∧ fs.length < 1000 ∧ P a' C dx fs := ⟨a, C, dx, fs, rfl, h, c, n, l, q⟩
theorem i_meth (q : to σ H fun x H1 => ∃ a dx fs, x = .ref a ∧ H1 a = some (.ins C dx fs) ∧ fs.lookup m = none ∧ ta σ H1 fun vs H2 => sp (x :: (vs ++ dvs)) H2 Q E) : tMeth C m sp dvs E to ta σ H Q := q
theorem i_self {P : Prop} (h : H a = some (.ins C dx fs)) (l : fs.lookup m = none) (q : P) : ∃ a' dx fs, V.ref a = .ref a' ∧ H a' = some (.ins C dx fs) ∧ fs.lookup m = none ∧ P := ⟨a, dx, fs, rfl, h, l, q⟩
theorem i_make (q : ta σ H fun vs H1 => ∀ x dx, H1 x = none → H1 dx = none → dx ≠ x → sp (.ref x :: (vs ++ dvs)) (upd (upd H1 dx (.own x)) x (.ins C dx [])) (fun v H2 => v = .non ∧ Q (.ref x) H2) E) : tMake C sp dvs E ta σ H Q := q
theorem i_spl (q : to σ H fun x H1 => tyV K "str" x H1 ∧ ta σ H1 fun xs H2 => rSplit x xs H2 Q) : tSpl K to ta σ H Q := q
/-- the kind of a datum -/
def kindD : PyData → String
  | .none => "NoneType" | .bool _ => "bool" | .int _ => "int" | .str _ => "str" | .list _ => "list" | .tuple _ => "tuple" | .dict _ => "dict"
theorem At.ty {d : PyData} (K : PySem.W.Frag) (h : At H v d) : TyX K H v (.type (kindD d)) := by
  cases h with
  | non => exact .base .non
  | bl b => exact .base (.bl b)
  | int i => exact .base (.int i)
  | str l _ => exact .base (.str _)
  | lst e _ _ => exact .base (.lst e)
  | tup e _ _ => exact .base (.tup e)
  | dct e => exact .base (.dK e)
theorem i_isiD {d : PyData} {t : String} {b : Bool} (h : At H v d) (e : PySem.W.kitOne K (.type (kindD d)) (.type t) = some b) (q : Q (.bl b) H) : rIsi K [v, .ty t] H Q := ⟨_, _, _, _, b, rfl, .ty _, h.ty K, e, q⟩
theorem i_isiT2 {d : PyData} {t u : String} {b : Bool} {tp : Addr} (h : At H v d) (ht : H tp = some (.tup [.ty t, .ty u])) (e : PySem.W.kitAny K (.type (kindD d)) [.type t, .type u] = some b) (q : Q (.bl b) H) : rIsiT K [v, .ref tp] H Q :=
  ⟨v, tp, _, _, _, b, rfl, ht, .cons (.ty _) (.cons (.ty _) .nil), h.ty K, e, q⟩
end
theorem OK.never {P : Program} {w : World} {K : PySem.W.Frag} {mg : Str → Option Value} {base : Heap} {CX : CXT} {k : Nat} {x : Str} {st : Stmt} {ps : List Str} {dvs : List V} (D : DefD K mg x st ps dvs) : OK P w K mg base CX k x ps fun _ _ _ _ => False := by
  obtain ⟨f, fd, F, hm, hb, _⟩ := D
  exact ⟨f, fd, ⟨fun _ _ _ _ h => h.elim, fun _ _ _ _ _ _ _ _ _ _ _ _ _ h => h.elim⟩, hm, F.kp, hb⟩
theorem OK.never0 {P : Program} {w : World} {K : PySem.W.Frag} {mg : Str → Option Value} {base : Heap} {CX : CXT} {k : Nat} {x : Str} {st : Stmt} {ps : List Str} (D : DefIn K mg x st ps) : OK P w K mg base CX k x ps fun _ _ _ _ => False := by
  obtain ⟨f, fd, F, hm, hb⟩ := D
  exact ⟨f, fd, ⟨fun _ _ _ _ h => h.elim, fun _ _ _ _ _ _ _ _ _ _ _ _ _ h => h.elim⟩, hm, F.kp, hb⟩
theorem depth_mem : ∀ {ds : List PyData} {d : PyData}, d ∈ ds → d.depth ≤ PyData.depthAll ds
  | e :: r, d, h => by
    show d.depth ≤ max e.depth (PyData.depthAll r)
    rcases List.mem_cons.mp h with rfl | h
    · exact Nat.le_max_left _ _
    · exact Nat.le_trans (depth_mem h) (Nat.le_max_right _ _)
/-- lists as tuples, at all depths -/
def deepD : PyData → PyData
  | .list ds => .tuple (deepDs ds)
  | .tuple ds => .tuple (deepDs ds)
  | d => d
where deepDs : List PyData → List PyData
  | [] => []
  | d :: r => deepD d :: deepDs r
theorem deepDs_map : ∀ ds : List PyData, deepD.deepDs ds = ds.map deepD
  | [] => rfl
  | d :: r => by rw [List.map_cons, ← deepDs_map r]; rfl
/-! ### isinstance of a datum -/
def isSeqD : PyData → Bool
  | .list _ => true | .tuple _ => true | _ => false
def isTupD : PyData → Bool
  | .tuple _ => true | _ => false
def isStrD : PyData → Bool
  | .str _ => true | _ => false
def isIntD : PyData → Bool
  | .int _ => true | .bool _ => true | _ => false
def isBoolD : PyData → Bool
  | .bool _ => true | _ => false
section
variable {K : PySem.W.Frag} {H : Hp} {Q : VK} {v : V} {d : PyData} {tp : Addr}
theorem i_isiSeq (b : Bool) (h : At H v d) (ht : H tp = some (.tup [.ty "list", .ty "tuple"])) (e : isSeqD d = b) (q : Q (.bl b) H) : rIsiT K [v, .ref tp] H Q := by
  subst e
  refine i_isiT2 h ht ?_ q
  cases d <;> simp only [kindD, isSeqD] <;> first
    | exact kitAny_cons (b := true) (kit_ty (by decide +kernel)) (fun z => nomatch z) (fun _ => rfl)
    | exact kitAny_cons (b := false) (kit_ty (by decide +kernel)) (fun _ => kitAny_cons (b := true) (kit_ty (by decide +kernel)) (fun z => nomatch z) (fun _ => rfl)) (fun z => nomatch z)
    | exact kitAny_cons (b := false) (kit_ty (by decide +kernel)) (fun _ => kitAny_cons (b := false) (kit_ty (by decide +kernel)) (fun _ => rfl) (fun z => nomatch z)) (fun z => nomatch z)
theorem i_isiTup (b : Bool) (h : At H v d) (e : isTupD d = b) (q : Q (.bl b) H) : rIsi K [v, .ty "tuple"] H Q := by
  subst e
  refine i_isiD h (kit_ty ?_) q
  cases d <;> (simp only [kindD, isTupD] ; decide +kernel)
theorem i_isiStr (b : Bool) (h : At H v d) (e : isStrD d = b) (q : Q (.bl b) H) : rIsi K [v, .ty "str"] H Q := by
  subst e
  refine i_isiD h (kit_ty ?_) q
  cases d <;> (simp only [kindD, isStrD] ; decide +kernel)
theorem i_isiInt (b : Bool) (h : At H v d) (e : isIntD d = b) (q : Q (.bl b) H) : rIsi K [v, .ty "int"] H Q := by
  subst e
  refine i_isiD h (kit_ty ?_) q
  cases d <;> (simp only [kindD, isIntD] ; decide +kernel)
theorem i_isiBool (b : Bool) (h : At H v d) (e : isBoolD d = b) (q : Q (.bl b) H) : rIsi K [v, .ty "bool"] H Q := by
  subst e
  refine i_isiD h (kit_ty ?_) q
  cases d <;> (simp only [kindD, isBoolD] ; decide +kernel)
theorem At.tupled {ds : List PyData} (h : At H v (.tuple ds)) : ∃ a xs, v = .ref a ∧ H a = some (.tup xs) ∧ xs.length ≤ 10000 ∧ AtAll H xs ds := by
  cases h with
  | tup e l a => exact ⟨_, _, rfl, e, l, a⟩
theorem At.listed {ds : List PyData} (h : At H v (.list ds)) : ∃ a xs, v = .ref a ∧ H a = some (.lst xs) ∧ xs.length ≤ 10000 ∧ AtAll H xs ds := by
  cases h with
  | lst e l a => exact ⟨_, _, rfl, e, l, a⟩
theorem At.strd {x : Str} (h : At H v (.str x)) : v = .str x := by
  cases h; rfl
theorem At.strl {x : Str} (h : At H v (.str x)) : ∃ l : List Nat, v = S l ∧ x = ⟨l.toArray⟩ ∧ l.length ≤ 10000 := by
  cases h with
  | str l hl => exact ⟨l, rfl, rfl, hl⟩
theorem At.intd {i : Int} (h : At H v (.int i)) : v = .int i := by
  cases h; rfl
theorem At.mkTup {a : Addr} {xs : List V} {ds : List PyData} (e : H a = some (.tup xs)) (h : AtAll H xs ds) (l : ds.length ≤ 10000) : At H (.ref a) (.tuple ds) := .tup e (by rw [h.len]; exact l) h
theorem At.mkLst {a : Addr} {xs : List V} {ds : List PyData} (e : H a = some (.lst xs)) (h : AtAll H xs ds) (l : ds.length ≤ 10000) : At H (.ref a) (.list ds) := .lst e (by rw [h.len]; exact l) h
end
/-! ### loops over a text, over a tuple, behind i_for -/
section
variable {K : PySem.W.Frag} {σ : L2.St} {H : Hp} {D : Ends} {te : TE} {tb : TS} {g : TG} {a : Addr} {xs : List V} {z : List Nat}
theorem i_forS {A B : Prop} (Pv : Nat → L2.St → Hp → Prop) (h0 : Pv 0 σ H)
    (hs : ∀ i c σ' H', z[i]? = some c → Pv i σ' H' → g (S [c]) σ' H' fun σ2 H2 => tb { D with nx := Pv (i + 1), ct := Pv (i + 1), bk := D.nx } σ2 H2) (hd : ∀ σ' H', Pv z.length σ' H' → D.nx σ' H') :
    A ∨ B ∨ ∃ z', S z = .str z' ∧ LoopG g tb D σ (Its z') H := by
  have e : (⟨z.toArray⟩ : Str).cps.size = z.length := str_len z
  refine .inr (.inr ⟨_, rfl, for_it walk_str Pv h0 (fun _ _ _ _ _ => True.intro) (fun i x σ' H' H2 hi p y => ?_) (by rw [e]; exact hd)⟩)
  obtain ⟨rfl, c, hc, rfl⟩ := y
  exact hs i c σ' _ (by simpa using hc) p
theorem i_forT {A B : Prop} (hx : SqT K H a xs) (Pv : Nat → L2.St → Hp → Prop) (h0 : Pv 0 σ H) (hl : ∀ i σ' H', i ≤ xs.length → Pv i σ' H' → SqT K H' a xs)
    (hs : ∀ i x σ' H', xs[i]? = some x → Pv i σ' H' → g x σ' H' fun σ2 H2 => tb { D with nx := Pv (i + 1), ct := Pv (i + 1), bk := D.nx } σ2 H2) (hd : ∀ σ' H', Pv xs.length σ' H' → D.nx σ' H') :
    A ∨ (∃ a' xs', V.ref a = .ref a' ∧ SqT K H a' xs' ∧ LoopG g tb D σ (Itt K a') H) ∨ B := .inr (.inl ⟨a, xs, rfl, hx, for_tup Pv h0 hl hs hd⟩)
end
/-! ### calls whose defaults fill up; methods -/
section
variable {σ : L2.St} {H : Hp} {Q : VK} {E : XK} {tl : TA} {x y z u : V} {p1 : P1} {p2 : P2} {p3 : P3} {p4 : P4}
theorem i_callD {sp : Sp} {dvs : List V} (q : tl σ H fun vs H1 => sp (vs ++ dvs) H1 Q E) : tCall sp dvs E tl σ H Q := q
theorem i_spD2 (q : p2 x y H Q E) : sp2 p2 ([x] ++ [y]) H Q E := ⟨x, y, rfl, q⟩
theorem i_spM1 (q : p1 x H Q E) : sp1 p1 (x :: ([] ++ [])) H Q E := ⟨x, rfl, q⟩
theorem i_spM2 (q : p2 x y H Q E) : sp2 p2 (x :: ([y] ++ [])) H Q E := ⟨x, y, rfl, q⟩
theorem i_spM3 (q : p3 x y z H Q E) : sp3 p3 (x :: ([y, z] ++ [])) H Q E := ⟨x, y, z, rfl, q⟩
theorem i_spM4 (q : p4 x y z u H Q E) : sp4 p4 (x :: ([y, z, u] ++ [])) H Q E := ⟨x, y, z, u, rfl, q⟩
theorem i_spM3d (q : p3 x y z H Q E) : sp3 p3 (x :: ([y] ++ [z])) H Q E := ⟨x, y, z, rfl, q⟩
end
end Fg
/-! enumerate(a tuple) -/
namespace Fg
open PySem PySem.Spec PyProof.Rows L2
open AutoSeq1 (wpAny_loadPart')
theorem meets_enumT (l : Addr) (items : Array Value) (n : Nat) (dct : Option Addr) (sl : Array (Option Value)) :
    Meets (Builtin.«enumerate.__new__» ⟨[.type "enumerate", .ref l], []⟩) (fun _ R s => s.heap.get? l = some { cls := .type "tuple", dict := dct, data := .seq items n, slots := sl } ∧
      R (.ok (.ret (.ref (s.heap.push { cls := .type "tuple_iterator", data := .fields #[.ref l, .int 0 0] }).objs.size)))
        { s with heap := (s.heap.push { cls := .type "tuple_iterator", data := .fields #[.ref l, .int 0 0] }).push { cls := .type "enumerate", data := .fields #[.none, .bool false, .ref s.heap.objs.size, rawInt 0, .none, .none] } }) :=
  .of_wp fun prog w A R s h => by
    obtain ⟨hp, g, d, tk, os⟩ := s; obtain ⟨hl, h⟩ := h
    have hsub := sub_enumerate
    have hL : Heap.IsTuple (Shared.heap ⟨hp, g, d, tk, os⟩) l items := ⟨_, hl, rfl, n, rfl⟩
    wp_walk using wpAny_loadPart' hl
    refine wpAny_stack_any fun st => wpAny_pure ?_
    split
    · rename_i c _ _ _ _ _
      cases (c == Value.type "enumerate")
      · wp_walk using wpAny_loadPart' hl, wpAny_pyIter_tuple hL
        exact ⟨_, rfl, h⟩
      · wp_walk using wpAny_loadPart' hl, wpAny_pyIter_tuple hL
        exact ⟨_, rfl, h⟩
    · wp_walk using wpAny_loadPart' hl, wpAny_pyIter_tuple hL
      exact ⟨_, rfl, h⟩
section
variable {prog : Program} {w : World} {A : Around} {E : Value → Shared → Prop} {s : Shared}
theorem call_enumT {l : Addr} {items : Array Value} {Q : Value → Shared → Prop} (hL : s.heap.IsTuple l items)
    (h : ∀ h', IsEnum h' (s.heap.objs.size + 1) s.heap.objs.size 0 .none → h'.IsTupleIter s.heap.objs.size l 0 → h'.objs.size = s.heap.objs.size + 2 →
      (∀ b o, s.heap.get? b = some o → h'.get? b = some o) → Q (.ref (s.heap.objs.size + 1)) { s with heap := h' }) :
    wpAny (model prog w) A (call (.type "enumerate") [.ref l]) Q E s := by
  obtain ⟨⟨c, dct, dt, sl⟩, hl, hc, n, hd⟩ := hL
  replace hc : c = .type "tuple" := hc
  replace hd : dt = .seq items n := hd
  subst hc hd
  refine callType_new F.called_enumerate (by decide) (F.typeCall_enumerate_1 _) (F.newCall_enumerate_1 _) (fun obj => F.args_object_init_2 obj _) F.entry_enumerate_new
    (meets_enumT l items n dct sl) ⟨hl, ?_⟩
  have hz : (s.heap.push { cls := .type "tuple_iterator", data := .fields #[.ref l, .int 0 0] }).objs.size = s.heap.objs.size + 1 := Heap.size_push ..
  show _ ∧ _
  rw [hz]
  have he : IsEnum ((s.heap.push { cls := .type "tuple_iterator", data := .fields #[.ref l, .int 0 0] }).push
      { cls := .type "enumerate", data := .fields #[.none, .bool false, .ref s.heap.objs.size, rawInt 0, .none, .none] }) (s.heap.objs.size + 1) s.heap.objs.size 0 .none := by
    have := Heap.get?_push_size (s.heap.push { cls := .type "tuple_iterator", data := .fields #[.ref l, .int 0 0] })
      (o := { cls := .type "enumerate", data := .fields #[.none, .bool false, .ref s.heap.objs.size, rawInt 0, .none, .none] }) rfl
    rw [hz] at this; exact this
  refine ⟨⟨_, he, rfl⟩, h _ he ⟨_, Heap.get?_push_of_some _ (Heap.get?_push_size _ rfl), rfl, rfl⟩ (by rw [Heap.size_push, hz]) fun b o x => Heap.get?_push_of_some _ (Heap.get?_push_of_some _ x)⟩
end
/-- the tuple at a, each item in a new pair with its place -/
def Itet (K : PySem.W.Frag) (a : Addr) : It :=
  ⟨fun i H => ∃ (xs : List V) (x : V), SqT K H a xs ∧ xs[i]? = some x, fun i H v H' => ∃ T x, v = .ref T ∧ H T = none ∧ H' = upd H T (.tup [.int (i : Nat), x]) ∧ ∀ xs, SqT K H a xs → xs[i]? = some x, fun i H => ∃ xs : List V, SqT K H a xs ∧ i = xs.length⟩
theorem turn_enumT {P : Program} {w : World} {K : PySem.W.Frag} {elts : List Expr} {kk : Nat} {tpos : PySem.Pos} (a e it : Addr) :
    Turn P w K (.Tuple elts kk tpos) (Itet K a) [e, it] e (fun i h => (∃ old, IsEnum h e it ((i : Nat) : Int) old) ∧ h.IsTupleIter it a i ∧ e ≠ it) where
  mem := by simp
  obj := fun i h st b hb => by
    obtain ⟨⟨old, he⟩, ⟨o, ho, hc, hd⟩, _⟩ := st
    have e' : b = e ∨ b = it := by simpa using hb
    rcases e' with z | z
    · rw [z]; exact ⟨_, he, fun v q => nomatch q⟩
    · rw [z]; exact ⟨o, ho, fun v q => by rw [hd] at q; cases q⟩
  keep := fun i h h' st k => let ⟨⟨old, he⟩, hi, hne⟩ := st; ⟨⟨old, k e (by simp) _ he⟩, hi.at fun o q => k it (by simp) o q, hne⟩
  item := by
    intro X hP hw hK hc i pins s σ H E I hf st hg
    subst hP hw hK
    obtain ⟨⟨old, he⟩, hit, hne⟩ := st
    obtain ⟨xs, x, hq, hx⟩ := hg
    obtain ⟨its, rv, p, hz⟩ := I.tuple hq
    have pt : s.heap.IsTuple a its.toArray := p
    obtain ⟨u, hu, ru⟩ := rv.get hx
    have hel : e < s.heap.objs.size := Heap.lt_size he
    have hil : it < s.heap.objs.size := by obtain ⟨_, q, _⟩ := hit; exact Heap.lt_size q
    have hai : a ≠ it := fun z => by
      obtain ⟨o1, q1, c1, _⟩ := hit
      obtain ⟨o2, q2, c2, _⟩ := pt
      rw [z, q1] at q2
      cases q2
      rw [c1] at c2
      exact absurd c2 (by simp)
    have hae : e ≠ a := fun z => by
      obtain ⟨o2, q2, c2, _⟩ := pt
      rw [← z] at q2
      have q1 : s.heap.get? e = some _ := he
      rw [q1] at q2
      cases q2
      exact absurd c2 (by simp)
    have hsz : its.toArray.size = xs.length := by rw [List.size_toArray]; exact rv.length.symm
    have D := Draws.tuple (prog := X.prog) (w := X.w) (A := X.A.in1) (I.ok.hd hc) it a hai its.toArray
    refine wpAny_pyNext_enum_itemC D he ⟨hit, pt⟩ (by rw [hsz]; exact (List.getElem?_eq_some_iff.mp hx).1) hne (by simp [hne, hae]) fun y h' tk hy ho hS' hT hsz2 hk => ?_
    have yu : y = u := by
      have e1 : its.toArray[i]? = some u := by simpa using hu
      rw [e1] at hy
      exact (Option.some.inj hy).symm
    subst yu
    refine ⟨_, rfl, wpAny_letOwnedTupleGo_enum (s := { s with heap := h', toks := tk + 1 }) ho fun h2 he2 sb => ?_⟩
    have T2 : h2.get? s.heap.objs.size = some { cls := .type "tuple", data := .seq #[.int i tk, y] } := (sb.2 _ (Nat.ne_of_gt hel)).trans hT
    have new : ObjOk X.prog X.w (upd H s.heap.objs.size (.tup [.int (i : Nat), x])) h2 s.heap.objs.size (.tup [.int (i : Nat), x]) :=
      ⟨by show 2 ≤ sizeLine; decide, [.int i tk, y], .cons ⟨_, rfl⟩ (.cons ru .nil), ⟨_, T2, rfl, _, rfl⟩⟩
    have J : Inv X pins σ (upd H s.heap.objs.size (.tup [.int (i : Nat), x])) { s with heap := h2, toks := tk + 1 } :=
      I.turnedNew (ch := [e, it]) (fun b ob hb q => (sb.2 b (fun z => hb (by simp [z]))).trans (hk b ob (fun z => hb (by simp [z])) (fun z => hb (by simp [z])) q)) hf (Nat.le_refl _) new
    refine ⟨.ref s.heap.objs.size, _, J, rfl, ⟨_, x, rfl, I.hok.fresh (Nat.le_refl _), rfl, fun ys hy => by rw [I.tuple_inj hy hq]; exact hx⟩, ⟨⟨y, ?_⟩, ?_, hne⟩, fun b hb => ?_⟩
    · have e1 : ((i + 1 : Nat) : Int) = (i : Int) + 1 := by omega
      rw [e1]; exact he2
    · exact hS'.1.at fun o q => (sb.2 it (Ne.symm hne)).trans q
    · have hb' : b < s.heap.objs.size := by
        have e' : b = e ∨ b = it := by simpa using hb
        rcases e' with z | z
        · rw [z]; exact hel
        · rw [z]; exact hil
      rw [upd_ne (Nat.ne_of_lt hb')]
      exact (hf b hb).1
  done := by
    intro X hP hw hK hc i pins s σ H E I hf st hg
    subst hP hw hK
    obtain ⟨⟨old, he⟩, hit, hne⟩ := st
    obtain ⟨xs, hq, hx⟩ := hg
    obtain ⟨its, rv, p, hz⟩ := I.tuple hq
    have pt : s.heap.IsTuple a its.toArray := p
    have hai : a ≠ it := fun z => by
      obtain ⟨o1, q1, c1, _⟩ := hit
      obtain ⟨o2, q2, c2, _⟩ := pt
      rw [z, q1] at q2
      cases q2
      rw [c1] at c2
      exact absurd c2 (by simp)
    obtain ⟨f0, f1, f2, f3, f4, f5⟩ := hf it (by simp)
    have hsz : its.toArray.size = i := by rw [List.size_toArray, hx]; exact rv.length.symm
    have D := Draws.tuple (prog := X.prog) (w := X.w) (A := X.A.in1) (I.ok.hd hc) it a hai its.toArray
    exact wpAny_pyNext_enum_endD D he ⟨hsz ▸ hit, pt⟩ fun h' eb => ⟨rfl, I.turned (t' := s.toks) (fun b o hb q => eb b o hb q) f0 f1 f3 f4 f5⟩
  self := fun A i s Q E st h => let ⟨⟨_, he⟩, _⟩ := st; wpAny_pyIter_enum he h
def iEnumT (K : PySem.W.Frag) (ta : TA) : TI := fun σ H R => ta σ H fun vs H1 => ∃ a xs, vs = [.ref a] ∧ SqT K H1 a xs ∧ R (Itet K a) H1
theorem pi_enumT {X : Cx} {e : Expr} {ta : TA} {p pos tpos : PySem.Pos} {elts : List Expr} {kk : Nat} (hg : Gl X "enumerate") (hm : X.mg "enumerate" = none) (ha : PA X [e] ta) (hs : starEach [e] X.env = [(false, eval e X.env)] := by rfl) :
    PI X (.Tuple elts kk tpos) (.Call (.Name "enumerate" p) [e] [] pos) (iEnumT X.K ta) := by
  refine ⟨fun pins s σ H R I h => Call_ (ld_blt I hg hm boot_enumerate (PyProof.Rows.callWith_type1 (thn (ha.run pos pins s σ H _ I h) fun us s1 ⟨vs, H1, J, r1, q1⟩ => ?_) hs rfl))⟩
  have far : ∀ b ∈ [s1.heap.objs.size + 1, s1.heap.objs.size], s1.heap.objs.size ≤ b := fun b hb => by
    rcases List.mem_cons.mp hb with rfl | hb
    · exact Nat.le_succ _
    · rw [List.mem_singleton.mp hb]; exact Nat.le_refl _
  obtain ⟨a, xs, rfl, hq, q⟩ := q1
  cases r1 with
  | cons r rr =>
    cases rr
    cases r
    obtain ⟨its, rv, pl, hz⟩ := J.tuple hq
    refine call_enumT (show s1.heap.IsTuple a its.toArray from pl) fun h' hE hit hsz hk => wpAny_pyIter_enum hE ?_
    have J2 : Inv X pins σ H1 { s1 with heap := h' } := J.kept (t' := s1.toks) hk
    exact ⟨_, _, _, _, H1, rfl, J2, turn_enumT a (s1.heap.objs.size + 1) s1.heap.objs.size, ⟨⟨.none, hE⟩, hit, Nat.succ_ne_self _⟩, fun b hb => J.fpOk (far b hb) (J.hok.fresh (far b hb)), q⟩
theorem piEnumT (K : PySem.W.Frag) {X : Cx} {e : Expr} {ta : TA} {p pos tpos : PySem.Pos} {elts : List Expr} {kk : Nat} (hg : Gl X "enumerate") (hm : X.mg "enumerate" = none) (ha : PA X [e] ta) (h : X.K = K := by rfl) (hs : starEach [e] X.env = [(false, eval e X.env)] := by rfl) :
    PI X (.Tuple elts kk tpos) (.Call (.Name "enumerate" p) [e] [] pos) (iEnumT K ta) := h ▸ pi_enumT hg hm ha hs
/-- for i, x in enumerate(tuple) -/
theorem f_enumT {K : PySem.W.Frag} {σ : L2.St} {H : Hp} {D : Ends} {ta : TA} {tb : TS} {a : Addr} {xs : List V} {i1 i2 : Nat} (ha : ∀ R : List V → Hp → Prop, R [.ref a] H → ta σ H R) (hx : SqT K H a xs) (Pv : Nat → L2.St → Hp → Prop) (h0 : Pv 0 σ H)
    (hl : ∀ i σ' H', i ≤ xs.length → Pv i σ' H' → H' a = H a)
    (hs : ∀ i x σ' H' T, xs[i]? = some x → Pv i σ' H' → H' T = none → tb { D with nx := Pv (i + 1), ct := Pv (i + 1), bk := D.nx } ((σ'.set i1 (some (.int (i : Int)))).set i2 (some x)) (upd H' T (.tup [.int (i : Int), x]))) (hd : ∀ σ' H', Pv xs.length σ' H' → D.nx σ' H') :
    tFor (iEnumT K ta) (gTup K 2 (gCons (gName i1) (gCons (gName i2) gNil))) tb D σ H := by
  refine ha _ ⟨a, xs, rfl, hx, ?_⟩
  have sq : ∀ H', H' a = H a → SqT K H' a xs := fun H' e => by
    rcases hx with (h | ⟨o, h⟩) | h
    · exact .inl (.inl (e.trans h))
    · exact .inl (.inr ⟨o, e.trans h⟩)
    · exact .inr h
  have w : Walk (Itet K a) xs.length (fun H' => H' a = H a) (fun i Ha v Hb => ∃ T x, v = .ref T ∧ Ha T = none ∧ Hb = upd Ha T (.tup [.int (i : Nat), x]) ∧ xs[i]? = some x) := by
    refine ⟨fun i H' hi e => ⟨xs, xs[i], sq H' e, by simp [hi]⟩, fun H' e => ⟨xs, sq H' e, rfl⟩, fun i H' x H2 hi e y => ?_⟩
    obtain ⟨T, x, h1, h2, h3, h4⟩ := y
    exact ⟨T, x, h1, h2, h3, h4 xs (sq H' e)⟩
  refine for_it w Pv h0 (fun i σ' H' hi p => hl i σ' H' hi p) (fun i x σ' H' H2 hi p y => ?_) hd
  obtain ⟨T, c, rfl, nT, rfl, hc⟩ := y
  exact ⟨T, _, rfl, SqT.of upd_same, rfl, _, _, rfl, _, _, rfl, rfl, hs i c σ' H' T hc p nT⟩
end Fg
/-! replace, where the token of what is replaced is known: it was just cut out of a written text. -/
namespace Fg
open PySem PySem.Spec PyProof.Rows L2
theorem u65 {k : Nat} {A : Around} (r : Room k A) : A.units + 65 < cLine := by have := r.un; omega
section
variable {X : Cx} {pins : List (Addr × Obj)} {σ : L2.St} {H : Hp} {s : Shared}
/-- a store into a local name, the value kept in sight -/
theorem store_raw {M : Model} {A : Around} {E : Value → Shared → Prop} {i : Nat} {x : Str} {v : V} {u : Value} {Q : Unit → Shared → Prop} (I : Inv X pins σ H s) (hN : X.N.Nodup) (hi : X.N[i]? = some x) (hk : X.env.scope.names.lookup x = some .local) (r : RelV v u)
    (h : ∀ h' m, Inv X pins (σ.set i (some v)) H { s with heap := h', toks := s.toks + 1 } → h'.Ns X.env.locals m → m x = some u → Q () { s with heap := h', toks := s.toks + 1 }) : wpAny M A (storeName X.env x u) Q E s := by
  obtain ⟨m, hn, hl⟩ := id I.loc
  have hcls : (X.env.scope.kind == .class || (X.env.scope.kind == .module && X.env.locals != X.env.globals)) = false := by rw [I.ok.kind]; rfl
  have hiσ : i < σ.length := by rw [I.len]; exact (List.getElem?_eq_some_iff.mp hi).1
  have cne := I.cne
  have tracked : ∀ {a : Addr} {h' : Heap}, (∃ o, s.heap.get? a = some o ∧ H a = none) → Heap.SameBut a s.heap h' → HOk X.prog X.w H h' := fun {a h'} ha hs b ob e => by
    obtain ⟨_, _, hfree⟩ := ha
    refine (I.hok b ob e).stay (fun c w' hc q => (hs.2 c ?_).trans q) (fun _ q => q) fun _ _ q => q
    rintro rfl
    rcases hc with rfl | hc
    · rw [hfree] at e; cases e
    · rw [hfree] at hc; cases hc
  refine wpAny_storeName_local hk hn (fun h' hn' hs => ?_) hcls
  obtain ⟨oL, _, _, hoL, _⟩ := id hn
  refine h h' _ ⟨I.ok, I.os, I.bare, ⟨fun b o e n hb hx => ?_, fun b o e n hb hx => ?_, I.base.free, fun b o e hx => ?_, I.base.tups, I.base.frzs, I.base.tbls⟩, ⟨_, hn', fun j y v' e1 e2 e3 => ?_⟩, fun y c e => ?_, I.free, I.freeC, fun p hp => ?_, tracked ⟨oL, hoL, I.free⟩ hs, by simpa using I.len⟩ hn' (by simp)
  · exact (hs.2 b (Nat.ne_of_lt (Nat.lt_of_lt_of_le (Heap.lt_size e) I.ok.above))).trans (I.base.keep b o e n hb hx)
  · obtain ⟨sl, e1⟩ := I.base.slot b o e n hb hx
    exact ⟨sl, (hs.2 b (Nat.ne_of_lt (Nat.lt_of_lt_of_le (Heap.lt_size e) I.ok.above))).trans e1⟩
  · obtain ⟨o', e1⟩ := I.base.there b o e hx
    exact ⟨o', (hs.2 b (Nat.ne_of_lt (Nat.lt_of_lt_of_le (Heap.lt_size e) I.ok.above))).trans e1⟩
  · by_cases hj : j = i
    · subst hj
      rw [hi] at e1; cases e1
      rw [List.getElem?_set_self hiσ] at e2
      cases e2
      exact ⟨u, r, .inl ⟨hk, by simp⟩⟩
    · rw [List.getElem?_set_ne (Ne.symm hj)] at e2
      obtain ⟨u', r', q⟩ := hl j y v' e1 e2 e3
      refine ⟨u', r', ?_⟩
      rcases q with ⟨k, e⟩ | ⟨k, c, e, z⟩
      · refine .inl ⟨k, ?_⟩
        have : y ≠ x := fun e => hj (nodup_ix hN e1 (e ▸ hi))
        simp [this, e]
      · exact .inr ⟨k, c, e, z.sameBut hs (cne y c e)⟩
  · obtain ⟨w', z⟩ := I.cell y c e
    exact ⟨w', z.sameBut hs (cne y c e)⟩
  · obtain ⟨e, n, ne, nf, d⟩ := I.pin p hp
    exact ⟨(hs.2 p.1 ne).trans e, n, ne, nf, d⟩
end
/-- x = 'a'[e1]; y = 'b'.replace(x, 'c')[e2] -/
def tLitRep (i j : Nat) (a b c : Str) (t1 t2 : TE) (u : TS) : TS := fun D σ H => t1 σ H fun z1 H1 => ∃ (k1 : Int) (g1 : Nat), z1 = .int k1 ∧ a.length ≤ sizeLine ∧ atI a.cps.toList k1 = some g1 ∧ ((⟨#[g1]⟩ : Str) == c) = false ∧
  b.length + (b.length + 1) * c.length ≤ 16777216 ∧ t2 (σ.set i (some (.str ⟨#[g1]⟩))) H1 fun z2 H2 => ∃ (k2 : Int) (g2 : Nat), z2 = .int k2 ∧ (Txt.replace b ⟨#[g1]⟩ c).length ≤ sizeLine ∧
    atI (Txt.replace b ⟨#[g1]⟩ c).cps.toList k2 = some g2 ∧ u D ((σ.set i (some (.str ⟨#[g1]⟩))).set j (some (.str ⟨#[g2]⟩))) H2
theorem item_str_raw {prog : Program} {w : World} {A : Around} {E : Value → Shared → Prop} {s : Shared} {value slice : Expr} {z : Str} {i : Int} {c : Nat} {t u : Tok} {Q : Value → Shared → Prop} (hz : z.length ≤ sizeLine) (he : atI z.cps.toList i = some c) (hs : PlainIx slice)
    (h : Q (.str ⟨#[c]⟩ s.toks) { s with toks := s.toks + 1 }) : wpAny (model prog w) A (subscriptTail value slice (.str z t) (.int i u)) Q E s := by
  obtain ⟨j, h1, h2, h3, h4, h5⟩ := atI_get he
  have hl : z.cps.toList.length = z.length := by simp [Str.length]
  rw [hl] at h1 h4 h5
  have hn := line63
  exact tail_any (typeIs_str s z t) slot_str_getitem.lookup (P.getItem_str (c := c) (by
    have e1 : decide (i < -(2 ^ 63 : Int)) = false := decide_eq_false (by omega)
    have e2 : decide (i ≥ 2 ^ 63) = false := decide_eq_false (by omega)
    rw [e1, e2, Bool.or_false]) (by rw [h1]; simpa using h2) h) (hs _ _)
theorem pss_litrep {X : Cx} {i j : Nat} {x y a b c : Str} {e1 e2 : Expr} {t1 t2 : TE} {rest : List Stmt} {u : TS} {k0 k1 k2 : Nat} {p1 p2 p3 p4 q1 q2 q3 q4 q5 q6 q7 q8 : PySem.Pos} (hN : X.N.Nodup) (hi : X.N[i]? = some x) (hj : X.N[j]? = some y)
    (hx : X.env.scope.names.lookup x = some .local) (hy : Loc X.env.scope y) (h1 : PE X e1 t1) (h2 : PE X e2 t2) (pl1 : PlainIx e1) (pl2 : PlainIx e2) (hr : PSs X rest u)
    (hs1 : swapsWith (.Subscript (.Constant (.str a) k0 p2) e1 p3) (some (.Name x p1)) p4.line X.env = pure false := by rfl)
    (hs2 : swapsWith (.Subscript (.Call (.Attribute (.Constant (.str b) k1 q2) "replace" q3) [.Name x q4, .Constant (.str c) k2 q5] [] q6) e2 q7) (some (.Name y q1)) q8.line X.env = pure false := by rfl)
    (hf : X.fn y = true ∨ X.env.scope.names.lookup y = some .local := by first | exact .inl rfl | exact .inr rfl | assumption)
    (hst : starEach [.Name x q4, .Constant (.str c) k2 q5] X.env = [(false, eval (.Name x q4) X.env), (false, eval (.Constant (.str c) k2 q5) X.env)] := by rfl)
    (hbase : attributeBase (.Constant (.str b) k1 q2) "replace" X.env (eval (.Constant (.str b) k1 q2) X.env) = eval (.Constant (.str b) k1 q2) X.env := by rfl) (hline : (q3.endLine == q6.line) = true := by rfl)
    (hd : (x == ("__debug__" : Str)) = false := by decide) :
    PSs X (.Assign [.Name x p1] (.Subscript (.Constant (.str a) k0 p2) e1 p3) p4 ::
      .Assign [.Name y q1] (.Subscript (.Call (.Attribute (.Constant (.str b) k1 q2) "replace" q3) [.Name x q4, .Constant (.str c) k2 q5] [] q6) e2 q7) q8 :: rest) (tLitRep i j a b c t1 t2 u) := by
  refine ⟨fun pins s σ H D I h => ?_⟩
  refine wpAny_execs_cons (wpAny_Assign_Name (Subscript_ (Calls.Constant_str ?_)) hs1)
  refine wpAny_mono (PySem.wpAny_toks (h1.run pins _ σ H _ (I.tok (s.toks + 1)) h)) (fun v1 s1 q => ?_) fun _ _ z => z.2
  obtain ⟨hk1, z1, H1, I1, r1, n1, g1, rfl, hz1, he1, hne, hb, q⟩ := q
  obtain ⟨w1, rfl⟩ := r1
  have hk1' : s.toks + 1 ≤ s1.toks := hk1
  refine item_str_raw hz1 he1 pl1 ?_
  refine store_raw (v := .str ⟨#[g1]⟩) (I1.tok (s1.toks + 1)) hN hi hx ⟨_, rfl⟩ fun h' m I2 hn hm => ?_
  refine wpAny_execs_cons (wpAny_Assign_Name (Subscript_ ?_) hs2)
  refine PySem.Call_method2 hbase hst hline (Calls.Constant_str ?_)
  refine ⟨"str", _, F.plainAttrs_str, F.slot_str_replace, F.type_str_replace, typeIs_str _ _ _, (fun _ e => nomatch e), Calls.callWith_builtin rfl (Calls.evalArgs_plain (Calls.spliced_cons ?_))⟩
  refine wpAny_Name (wpAny_loadName_local I.ok.kind hx hn hm ?_) hd
  refine Calls.spliced_cons (Calls.Constant_str (Calls.spliced_nil ?_))
  refine PySem.SC.replace (by show s1.toks ≠ 0; omega) (by show s1.toks + 1 + 1 + 1 ≠ 0; omega) (by show s1.toks ≠ s1.toks + 1 + 1 + 1; omega) hne hb fun t' tk => ?_
  refine thn (h2.run pins _ _ H1 _ (I2.tok tk) q) fun v2 s2 ⟨z2, H2, I3, r2, n2, g2, e2', hz2, he2, q2⟩ => ?_
  subst e2'
  obtain ⟨w2, rfl⟩ := r2
  refine item_str_raw hz2 he2 pl2 ?_
  exact store_ok (v := .str ⟨#[g2]⟩) (I3.tok (s2.toks + 1)) hN hj hy ⟨_, rfl⟩ (fun s3 I4 => hr.run pins s3 _ H2 D I4 q2) hf
/-- a test on x == 6 gives out a token: behind it the body may ask for one -/
theorem ps_ifK {X : Cx} {e : Expr} {te : TE} {n : Int} {k : Nat} {a b : List Stmt} {t u : TS} {p1 p2 pos : PySem.Pos} {r : R2} (ho : OpR X (compareOp .Eq) r) (he : PE X e te) (ha : PSsT X a t) (hb : PSs X b u) :
    PS X (.If (.Compare e [.Eq] [.Constant (.int n) k p1] p2) a b pos) (tIfS (tTest (tOp r te (tC (.int n)))) t u) := by
  refine ⟨fun pins s σ H D I h => ?_⟩
  refine wpAny_If ?_
  have h' := (pt_cmpR (X := X) (pos := p2) ho he (pe_int (i := n) (j := k) (pos := p1)) (nomark _))
  refine wpAny_isTrue_Compare1 (thn (he.run pins s σ H _ I h) fun v s1 ⟨x, H1, I1, r1, q1⟩ => wpAny_Constant_int ?_) (nomark _)
  refine wpAny_mono (PySem.wpAny_toks (ho pins _ σ H1 x (.int n) v _ _ (I1.tok (s1.toks + 1)) r1 ⟨_, rfl⟩ q1)) (fun c s3 q => ?_) fun _ _ z => z.2
  obtain ⟨hk, z, H3, I3, r3, kb, e, q3⟩ := q
  subst e
  cases r3
  have hk' : s1.toks + 1 ≤ s3.toks := hk
  refine wpAny_truthy_bool ?_
  cases kb with
  | true => exact ha pins s3 σ H3 D (by omega) I3 q3
  | false => exact hb.run pins s3 σ H3 D I3 q3
/-! ### str of a text or of a small number; list(..) -/
def rStrP : RC := orC (fun xs H Q => ∃ i : Int, xs = [.int i] ∧ i.natAbs.log2 < 1920 ∧ Q (.str (toString i)) H) fun xs H Q => ∃ a, xs = [.str a] ∧ Q (.str a) H
theorem call_strP {X : Cx} : CallR X (.type "str") rStrP := orC_call call_str_int SkE.call_str_str
def rListP (K : PySem.W.Frag) : RC := fun xs H Q => ∃ p ys, xs = [.ref p] ∧ (SqL K H p ys ∨ SqT K H p ys) ∧ ∀ l, H l = none → Q (.ref l) (upd H l (.lst ys))
theorem cListP (K : PySem.W.Frag) {X : Cx} (h : X.K = K := by rfl) : CallR X (.type "list") (rListP K) := h ▸ call_list_of
/-- e.upper() -/
def tUpp (K : PySem.W.Frag) (to : TE) : TE := tBM0 K "str" (fun x xs H Q => ∃ a, x = .str a ∧ xs = [] ∧ a.length ≤ 5592405 ∧ Q (.str (Txt.upper a)) H) to
theorem peUpper (K : PySem.W.Frag) {X : Cx} {o : Expr} {to : TE} {apos cpos : PySem.Pos} (ho : PE X o to) (h : X.K = K := by rfl) (hbase : attributeBase o "upper" X.env (eval o X.env) = eval o X.env := by rfl) (hline : (apos.endLine == cpos.line) = true := by rfl) :
    PE X (.Call (.Attribute o "upper" apos) [] [] cpos) (tUpp K to) := h ▸ pe_bm0 PySem.F.plainAttrs_str PySem.F.slot_str_upper PySem.F.type_str_upper mt_upper ho hbase hline
end Fg
/-! law's own promise, where no display stands around -/
namespace Fg
open PySem PySem.Spec PyProof.Rows L2
theorem FnGOk.mk {P : Program} {w : World} {K : PySem.W.Frag} {mg : Str → Option Value} {base : Heap} {x : Str} {st : Stmt} {N ps : List Str} {k : Nat} {sp : Sp} {f : Addr} {fd : FuncData} (F : Fun K x x st f fd) (S : FnScope N ps (defScope st)) (len : ∀ vs H Q E, sp vs H Q E → vs.length = ps.length)
    (body : ∀ (cdv : Value) (A : Around) (outer : List Env) (s : Shared) (H : Hp) (vs : List V) (Q : VK) (E : XK), A.guards = some [] → Room k (A.deeper (envOfC x (defScope st) s.heap.objs.size f cdv)) → sp vs H Q E →
      ∃ t, PSs (cxOf CX0 P w K mg base N x (defScope st) f cdv A outer s H E).nox (defBody st) t ∧ t { nx := fun _ H' => Q .non H', rt := Q } (start N vs) H) : GOk P w K mg base CX0 (k + 1) f fd ps sp :=
  gok_mk F S len fun cdv A outer s H vs Q E hg hr h => let ⟨t, z, e⟩ := body cdv A outer s H vs Q E hg hr h; ⟨t, z.nox, e⟩
/-- tuples put together: what stands behind, by data -/
theorem i_catT {K : PySem.W.Frag} {H : Hp} {Q : VK} {a b : Addr} {xs ys : List V} (h1 : H a = some (.tup xs)) (h2 : H b = some (.tup ys)) (hz : xs.length + ys.length ≤ 1000)
    (q : ∀ r H', Same H H' → H' r = some (.tup (xs ++ ys)) → ((r = a ∨ r = b) ∧ H' = H ∨ H r = none ∧ H' = upd H r (.tup (xs ++ ys))) → Q (.ref r) H') : addP K (.ref a) (.ref b) H Q := by
  refine .inr (.inr (.inr ⟨a, b, xs, ys, rfl, rfl, .inl (.inl h1), .inl (.inl h2), Nat.le_trans hz (by decide), fun e => ?_, fun _ e => ?_, fun _ _ p np => ?_⟩))
  · subst e
    exact q b H (Same.refl H) h2 (.inl ⟨.inr rfl, rfl⟩)
  · subst e
    exact q a H (Same.refl H) (by rw [List.append_nil]; exact h1) (.inl ⟨.inl rfl, rfl⟩)
  · exact q p _ (same_upd np) upd_same (.inr ⟨np, rfl⟩)
/-- a part of a tuple -/
theorem i_slTup {K : PySem.W.Frag} {H : Hp} {Q : VK} {a : Addr} {xs : List V} {lo hi : Option Int} (h : H a = some (.tup xs))
    (q : ∀ r H', Same H H' → H' r = some (.tup (cutV xs lo hi)) → (r = a ∧ H' = H ∨ H r = none ∧ H' = upd H r (.tup (cutV xs lo hi))) → Q (.ref r) H') : slP K (.ref a) lo hi H Q := by
  refine .inr (.inl ⟨a, xs, rfl, .inl (.inl h), fun z => ?_, fun _ p np => ?_⟩)
  · have e : cutV xs lo hi = xs := by
      unfold cutV
      rw [z.1, z.2, List.drop_zero, Nat.sub_zero, List.take_length]
    exact q a H (Same.refl H) (by rw [e]; exact h) (.inl ⟨rfl, rfl⟩)
  · exact q p _ (same_upd np) upd_same (.inr ⟨np, rfl⟩)
end Fg
/-! repr of data: how long it is; of any value. -/
namespace Fg
open PySem PySem.Spec PyProof.Rows L2
/-- it can be shown, and is not long: at most m signs and parts -/
def rpB (m : Nat) (d : PyData) : Bool := d.showable && (d.leavesShort 400 && decide (d.bulk ≤ m))
structure Rp (m : Nat) (d : PyData) : Prop where
  sh : d.showable = true
  lv : d.leavesShort 400 = true
  bk : d.bulk ≤ m
theorem rp_of {m : Nat} {d : PyData} (h : rpB m d = true) : Rp m d := by
  unfold rpB at h
  rw [Bool.and_eq_true, Bool.and_eq_true] at h
  exact ⟨h.1, h.2.1, of_decide_eq_true h.2.2⟩
theorem Rp.fits {m : Nat} {d : PyData} (h : Rp m d) (hm : m ≤ 20000) : d.shown.length ≤ sizeLine := by
  have h1 := PyData.shown_le_bulk 400 (by decide) d h.lv
  have h2 : (400 + 2) * d.bulk ≤ 402 * 20000 := Nat.mul_le_mul_left _ (Nat.le_trans h.bk hm)
  have h3 : 402 * 20000 + 400 ≤ sizeLine := by decide
  omega
theorem Rp.mono {m n : Nat} {d : PyData} (h : Rp m d) (k : m ≤ n) : Rp n d := ⟨h.sh, h.lv, Nat.le_trans h.bk k⟩
theorem rp_all {m : Nat} : ∀ {ds : List PyData}, (∀ d ∈ ds, Rp m d) → PyData.showableAll ds = true ∧ PyData.leavesShortAll 400 ds = true ∧ PyData.bulkAll ds ≤ (m + 1) * ds.length
  | [], _ => ⟨rfl, rfl, by simp only [PyData.bulkAll]; exact Nat.zero_le _⟩
  | d :: r, h => by
    have h1 := h d (List.mem_cons_self ..)
    obtain ⟨a, b, c⟩ := rp_all (ds := r) fun x hx => h x (List.mem_cons_of_mem _ hx)
    refine ⟨?_, ?_, ?_⟩
    · simp only [PyData.showableAll, h1.sh, a, Bool.and_self]
    · simp only [PyData.leavesShortAll, h1.lv, b, Bool.and_self]
    · have := h1.bk
      simp only [PyData.bulkAll, List.length_cons, Nat.mul_add, Nat.mul_one]
      omega
theorem Rp.list {m : Nat} {ds : List PyData} (h : ∀ d ∈ ds, Rp m d) : Rp ((m + 1) * ds.length) (.list ds) := by
  obtain ⟨a, b, c⟩ := rp_all h
  exact ⟨by simp only [PyData.showable]; exact a, by simp only [PyData.leavesShort]; exact b, by simp only [PyData.bulk]; exact c⟩
theorem Rp.tuple {m : Nat} {ds : List PyData} (h : ∀ d ∈ ds, Rp m d) : Rp ((m + 1) * ds.length) (.tuple ds) := by
  obtain ⟨a, b, c⟩ := rp_all h
  exact ⟨by simp only [PyData.showable]; exact a, by simp only [PyData.leavesShort]; exact b, by simp only [PyData.bulk]; exact c⟩
theorem Rp.str {m : Nat} {l : List Nat} (h : l.length ≤ m) (hc : ∀ c ∈ l, c < 16 ^ 8) : Rp m (dS l) := by
  refine ⟨by simp only [PyData.showable], ?_, ?_⟩
  · simp only [PyData.leavesShort, List.all_eq_true, decide_eq_true_eq]
    intro c hm
    exact hc c (by simpa using hm)
  · simp only [PyData.bulk]
    have : (⟨l.toArray⟩ : Str).cps.size = l.length := by simp
    omega
theorem Rp.non {m : Nat} : Rp m .none := ⟨rfl, rfl, Nat.zero_le _⟩
theorem Rp.bool {m : Nat} (b : Bool) : Rp m (.bool b) := ⟨rfl, rfl, Nat.zero_le _⟩
theorem Rp.int {m : Nat} {i : Int} (h : i.natAbs < 10 ^ 40) : Rp m (.int i) := by
  refine ⟨?_, ?_, Nat.zero_le _⟩
  · simp only [PyData.showable]
    refine decide_eq_true ?_
    rcases Nat.eq_zero_or_pos i.natAbs with z | z
    · rw [z]; decide
    · refine (Nat.log2_lt (by omega)).mpr (Nat.lt_trans h ?_)
      exact (by decide +kernel : 10 ^ 40 < 2 ^ 1920)
  · have := int_text_length_le10 (a := i) (k := 40) (by decide) h
    simp only [PyData.leavesShort]
    refine decide_eq_true ?_
    show (PyData.shown (.int i)).length ≤ 400
    have e : (PyData.shown (.int i)).length = (toString i).length := by
      show (Str.ofString (toString i)).length = _
      rw [PySem.ofString_length]
    omega
/-- repr of any value that is data -/
def rReprA (K : PySem.W.Frag) : RC := fun xs H Q => ∃ (v : V) (d : PyData), xs = [v] ∧ Dp K H v d ∧ d.showable = true ∧ d.hasDict = false ∧ d.depth ≤ 60 ∧ d.shown.length ≤ sizeLine ∧ Q (.str d.shown) H
theorem cReprA (K : PySem.W.Frag) {X : Cx} (hgu : X.A.guards = some []) (hu : X.A.units + 64 < cLine) (hK : X.K = K := by rfl) : CallR X (.builtin "repr") (rReprA K) := by
  subst hK
  intro pins s σ H xs us Q I r h
  obtain ⟨v, d, rfl, hd, h1, h2, h3, h4, q⟩ := h
  cases r with
  | cons ru rn =>
    cases rn
    cases v with
    | ref a =>
      cases (show _ = Value.ref a from ru)
      obtain ⟨as, rd⟩ := Dp.reads I d (.ref a) (.ref a) hd rfl
      exact repr_of_reads' rd h1 (PyData.noDict_hsm h2) hgu (by omega) (fun b o e => e)
        (fun h' u tk hk => ⟨.str d.shown, H, I.kept (t' := tk) hk, ⟨u, rfl⟩, q⟩) h4
    | non =>
      cases hd
      cases (show _ = Value.none from ru)
      exact PySem.P.repr_of_none ⟨.str (PyData.shown .none), H, I.tok (s.toks + 1), ⟨_, rfl⟩, q⟩
    | bl b =>
      cases hd
      cases (show _ = Value.bool b from ru)
      exact PySem.P.repr_of_bool ⟨.str (PyData.shown (.bool b)), H, I.tok (s.toks + 1), ⟨_, rfl⟩, q⟩
    | int i =>
      cases hd
      obtain ⟨t, rfl⟩ := (show ∃ t, _ = Value.int i t from ru)
      exact PySem.P.repr_of_int (of_decide_eq_true (by simpa only [PyData.showable] using h1)) ⟨.str (PyData.shown (.int i)), H, I.tok (s.toks + 1), ⟨_, rfl⟩, q⟩
    | str x =>
      cases hd
      obtain ⟨t, rfl⟩ := (show ∃ t, _ = Value.str x t from ru)
      exact PySem.P.repr_of_str ⟨.str (PyData.shown (.str x)), H, I.tok (s.toks + 1), ⟨_, rfl⟩, q⟩ h4
    | _ => cases hd
section
variable {K : PySem.W.Frag} {H : Hp} {Q : VK} {v : V} {d : PyData} {m : Nat}
theorem i_reprA (h : At H v d) (r : Rp m d) (hm : m ≤ 20000) (nd : d.hasDict = false) (dp : d.depth ≤ 60) (q : Q (.str d.shown) H) : rReprA K [v] H Q := ⟨v, d, rfl, h.dp K d v nd, r.sh, nd, dp, r.fits hm, q⟩
theorem i_reprD {a : Addr} (h : At H (.ref a) d) (r : Rp m d) (hm : m ≤ 20000) (nd : d.hasDict = false) (dp : d.depth ≤ 60) (q : Q (.str d.shown) H) : rReprD K [.ref a] H Q := ⟨a, d, rfl, h.dp K d _ nd, r.sh, nd, dp, r.fits hm, q⟩
end
end Fg
/-! The reader of rhythm texts, in plain Lean. -/
namespace Fg
open PySem PySem.Spec PyProof.Rows L2
abbrev SG : List Nat := [46, 103, 114, 119]
abbrev DG : List Nat := [48, 49, 50, 51, 52, 53, 54, 55, 56, 57]
def Row (l : List Nat) : Prop := ∀ c ∈ l, c ∈ SG
def rpt (n : Nat) (l : List Nat) : List Nat := (List.replicate n l).flatten
theorem rpt_len (n : Nat) (l : List Nat) : (rpt n l).length = n * l.length := by simp [rpt, List.length_flatten]
theorem rpt_succ (k : Nat) (t : List Nat) : rpt (k + 1) t = t ++ rpt k t := by unfold rpt; rw [List.replicate_succ, List.flatten_cons]
theorem rpt_get : ∀ (k : Nat) (t : List Nat) (j : Nat), j < k * t.length → (rpt k t)[j]? = t[j % t.length]?
  | 0, t, j, h => by rw [Nat.zero_mul] at h; omega
  | k + 1, t, j, h => by
    rw [rpt_succ]
    by_cases hj : j < t.length
    · rw [List.getElem?_append_left hj, Nat.mod_eq_of_lt hj]
    · rw [List.getElem?_append_right (by omega), rpt_get k t (j - t.length) (by rw [Nat.succ_mul] at h; omega)]
      rw [← Nat.mod_eq_sub_mod (by omega)]
/-- the first lit one -/
def firstLit : List Nat → Nat
  | [] => 46
  | c :: r => if c = 46 then firstLit r else c
/-- a stretch as the reader has it -/
def Sv (n : Nat) (r : List Nat) : HO := .tup [.int (n : Int), if n ≤ 24 then S r else .non]
abbrev Stv := Nat × List Nat
def lcmL (ps : List Stv) : Nat := ps.foldl (fun b p => Nat.lcm b p.1) 1
theorem lcmL_snoc (ps : List Stv) (p : Stv) : lcmL (ps ++ [p]) = Nat.lcm (lcmL ps) p.1 := by
  unfold lcmL
  rw [List.foldl_append]
  rfl
def showN (ps : List Stv) (n : Nat) : List Nat := (List.range n).map fun i => firstLit (ps.map fun p => (rpt (n / p.1) p.2).getD i 0)
theorem showN_len (ps : List Stv) (n : Nat) : (showN ps n).length = n := by simp [showN]
theorem dvd_fold (ps : List Stv) : ∀ b, (b ∣ ps.foldl (fun b p => Nat.lcm b p.1) b) ∧ ∀ p ∈ ps, p.1 ∣ ps.foldl (fun b p => Nat.lcm b p.1) b := by
  induction ps with
  | nil => exact fun b => ⟨Nat.dvd_refl _, by simp⟩
  | cons q r ih =>
    intro b
    obtain ⟨h1, h2⟩ := ih (Nat.lcm b q.1)
    refine ⟨Nat.dvd_trans (Nat.dvd_lcm_left _ _) h1, fun p hp => ?_⟩
    rcases List.mem_cons.mp hp with rfl | hp
    · exact Nat.dvd_trans (Nat.dvd_lcm_right _ _) h1
    · exact h2 p hp
theorem dvd_lcmL {ps : List Stv} {p : Stv} (h : p ∈ ps) : p.1 ∣ lcmL ps := (dvd_fold ps 1).2 p h
theorem fold_pos (ps : List Stv) (h : ∀ p ∈ ps, 1 ≤ p.1) : ∀ b, 1 ≤ b → 1 ≤ ps.foldl (fun b p => Nat.lcm b p.1) b := by
  induction ps with
  | nil => exact fun b hb => hb
  | cons q r ih => exact fun b hb => ih (fun p hp => h p (List.mem_cons_of_mem _ hp)) _ (Nat.lcm_pos hb (h q List.mem_cons_self))
theorem lcmL_pos {ps : List Stv} (h : ∀ p ∈ ps, 1 ≤ p.1) : 1 ≤ lcmL ps := fold_pos ps h 1 (Nat.le_refl _)
/-! ### digits -/
def run (z : List Nat) (a : Nat) : List Nat := (z.drop a).takeWhile fun c => decide (c ∈ DG)
def bd (z : List Nat) (a : Nat) : Nat := a + (run z a).length
theorem run_step {z : List Nat} {m c : Nat} (h : z[m]? = some c) (hc : c ∈ DG) : run z m = c :: run z (m + 1) := by
  obtain ⟨hl, rfl⟩ := List.getElem?_eq_some_iff.mp h
  unfold run
  rw [List.drop_eq_getElem_cons hl, List.takeWhile_cons_of_pos (by simpa using hc)]
theorem run_stop {z : List Nat} {m : Nat} (h : ∀ c, z[m]? = some c → c ∉ DG) : run z m = [] := by
  unfold run
  by_cases hl : m < z.length
  · rw [List.drop_eq_getElem_cons hl, List.takeWhile_cons_of_neg (by simpa using h _ (List.getElem?_eq_getElem hl))]
  · rw [List.drop_of_length_le (by omega)]
    rfl
theorem bd_step {z : List Nat} {m c : Nat} (h : z[m]? = some c) (hc : c ∈ DG) : bd z (m + 1) = bd z m := by
  unfold bd
  rw [run_step h hc, List.length_cons]
  omega
theorem bd_stop {z : List Nat} {m : Nat} (h : ∀ c, z[m]? = some c → c ∉ DG) : bd z m = m := by
  unfold bd
  rw [run_stop h]
  rfl
theorem bd_le {z : List Nat} {a : Nat} (h : a ≤ z.length) : bd z a ≤ z.length := by
  unfold bd run
  have := (List.takeWhile_prefix (fun c => decide (c ∈ DG)) (l := z.drop a)).length_le
  rw [List.length_drop] at this
  omega
theorem bd_ge (z : List Nat) (a : Nat) : a ≤ bd z a := Nat.le_add_right _ _
theorem bd_eq {z : List Nat} {a : Nat} : bd z a = a ↔ run z a = [] := by
  unfold bd
  constructor
  · intro h
    exact List.length_eq_zero_iff.mp (by omega)
  · intro h
    rw [h]; rfl
theorem run_digits (z : List Nat) (a : Nat) : ∀ c ∈ run z a, c ∈ DG := fun c hc => by
  unfold run at hc
  generalize z.drop a = l at hc
  induction l with
  | nil => simp at hc
  | cons x r ih =>
    by_cases h : x ∈ DG
    · rw [List.takeWhile_cons_of_pos (by simpa using h)] at hc
      rcases List.mem_cons.mp hc with rfl | hc
      · exact h
      · exact ih hc
    · rw [List.takeWhile_cons_of_neg (by simpa using h)] at hc
      simp at hc
theorem cutN_run {z : List Nat} {a : Nat} (h : a ≤ z.length) : cutN z (some (a : Int)) (some (bd z a : Nat)) = run z a := by
  unfold cutN
  rw [HT.sIx_nat, HT.sIx_nat, Nat.min_eq_left h, Nat.min_eq_left (bd_le h)]
  have e : bd z a - a = (run z a).length := by unfold bd; omega
  rw [e]
  unfold run
  exact (List.prefix_iff_eq_take.mp (List.takeWhile_prefix _)).symm
def num (l : List Nat) : Nat := l.foldl (fun n c => 10 * n + (c - 48)) 0
def within (l : List Nat) (lo hi : Nat) : Bool := decide (1 ≤ l.length) && decide (l.length ≤ 2) && decide (lo ≤ num l) && decide (num l ≤ hi)
theorem within_iff {l : List Nat} {lo hi : Nat} : within l lo hi = true ↔ (1 ≤ l.length ∧ l.length ≤ 2 ∧ lo ≤ num l ∧ num l ≤ hi) := by
  unfold within
  simp only [Bool.and_eq_true, decide_eq_true_eq, and_assoc]
/-! ### the reader -/
abbrev Res := Except Nat (Stv × Nat)
def rep (s : Stv) (t : Nat) : Stv := (s.1 * t, rpt t s.2)
def beh (s u : Stv) : Stv := (s.1 + u.1, s.2 ++ u.2)
def shown (ps : List Stv) : Stv := (lcmL ps, showN ps (lcmL ps))
def fillTo (p : Stv) (b : Nat) : Stv := (b, p.2 ++ List.replicate (b - p.1) 46)
def isStart (c : Nat) : Bool := decide (c ∈ SG) || decide (c ∈ DG)
def timesOf (r : List Nat) : Nat := if r = [] then 1 else num r
def close (z : List Nat) (t : Nat) : Res → Res
  | .error k => .error k
  | .ok (s, e) => if z[e]? = some 41 then .ok (rep s t, e + 1) else .error e
def item (rp : Option (Nat → Res)) (z : List Nat) (a : Nat) : Res :=
  if (run z a).take 1 = [48] then .error a
  else match z[bd z a]? with
    | none => .error (bd z a)
    | some c =>
      if c ∉ SG ∧ c ≠ 40 then .error (bd z a)
      else if run z a ≠ [] ∧ within (run z a) 2 24 = false then .error a
      else if c ≠ 40 then .ok (rep (1, [c]) (timesOf (run z a)), bd z a + 1)
      else match rp with
        | none => .error (bd z a)
        | some f => close z (timesOf (run z a)) (f (bd z a + 1))
def goOn (k : Stv → Nat → Res) : Res → Res
  | .error k => .error k
  | .ok (s, e) => k s e
def items (ri : Nat → Res) (z : List Nat) : Nat → Nat → Stv → Res
  | 0, a, p => .ok (p, a)
  | f + 1, a, p => match z[a]? with
    | none => .ok (p, a)
    | some c => if isStart c = true then goOn (fun s e => items ri z f e (beh p s)) (ri a) else .ok (p, a)
def filled (z : List Nat) (a : Nat) (p : Stv) : Res :=
  if run z a = [] then .error a
  else if (run z a).take 1 = [48] ∨ within (run z a) (max 1 p.1) 24 = false then .error a
  else .ok (fillTo p (num (run z a)), bd z a)
def partEnd (z : List Nat) (p : Stv) (e : Nat) : Res := if p.1 = 0 then .error e else if z[e]? = some 64 then filled z (e + 1) p else .ok (p, e)
def part (ri : Nat → Res) (z : List Nat) (a : Nat) : Res := goOn (partEnd z) (items ri z (z.length + 1 - a) a (0, []))
def more (rq : Nat → Res) (z : List Nat) : Nat → Nat → List Stv → Res
  | 0, a, ps => .ok (shown ps, a)
  | f + 1, a, ps => if z[a]? = some 38 then goOn (fun s e => more rq z f e (ps ++ [s])) (rq (a + 1)) else .ok (shown ps, a)
def parts (ri : Nat → Res) (z : List Nat) (a : Nat) : Res := goOn (fun s e => more (part ri z) z (z.length + 1 - e) e [s]) (part ri z a)
mutual
/-- an item, so many more may be opened -/
def rdItem (z : List Nat) : Nat → Nat → Res
  | 0 => item none z
  | d + 1 => item (some (rd z d)) z
def rd (z : List Nat) : Nat → Nat → Res
  | d => parts (rdItem z d) z
end
/-! ### what the reader hands back is small, and has its length -/
def Gb (s : Stv) (w : Nat) : Prop := s.1 + 1 ≤ 2 ^ (5 * w) ∧ (s.1 ≤ 24 → s.2.length = s.1)
def Gd (z : List Nat) (f : Nat → Res) : Prop := ∀ a s e, a ≤ z.length → f a = .ok (s, e) → a < e ∧ e ≤ z.length ∧ 1 ≤ s.1 ∧ Gb s (e - a)
theorem pow_mono5 {x y : Nat} (h : x ≤ y) : 2 ^ (5 * x) ≤ 2 ^ (5 * y) := Nat.pow_le_pow_right (by decide) (by omega)
theorem pow32 {w : Nat} (h : 1 ≤ w) : 32 ≤ 2 ^ (5 * w) := Nat.le_trans (by decide : 32 ≤ 2 ^ (5 * 1)) (pow_mono5 h)
theorem Gb.small {s : Stv} {w : Nat} (h : s.1 ≤ 24) (hw : 1 ≤ w) (hl : s.2.length = s.1) : Gb s w := ⟨by have := pow32 hw; omega, fun _ => hl⟩
theorem Gb.beh {p s : Stv} {x y : Nat} (hp : Gb p x) (hs : Gb s y) : Gb (beh p s) (x + y) := by
  refine ⟨?_, fun h => ?_⟩
  · show p.1 + s.1 + 1 ≤ _
    rw [Nat.mul_add, Nat.pow_add]
    refine Nat.le_trans ?_ (Nat.mul_le_mul hp.1 hs.1)
    rw [Nat.add_mul, Nat.mul_add]
    omega
  · have h : p.1 + s.1 ≤ 24 := h
    show (p.2 ++ s.2).length = p.1 + s.1
    rw [List.length_append, hp.2 (by omega), hs.2 (by omega)]
theorem Gb.rep {s : Stv} {x y t : Nat} (hs : Gb s x) (h1 : 1 ≤ s.1) (t1 : 1 ≤ t) (t2 : t ≤ 24) (hy : x + 1 ≤ y) : Gb (rep s t) y := by
  refine ⟨?_, fun h => ?_⟩
  · show s.1 * t + 1 ≤ _
    refine Nat.le_trans ?_ (pow_mono5 hy)
    rw [Nat.mul_add, Nat.pow_add]
    have := Nat.mul_le_mul hs.1 (show 24 ≤ 2 ^ (5 * 1) by decide)
    have h2 : s.1 * t ≤ s.1 * 24 := Nat.mul_le_mul_left _ t2
    omega
  · have h : s.1 * t ≤ 24 := h
    have : s.1 ≤ s.1 * t := Nat.le_mul_of_pos_right _ t1
    show (rpt t s.2).length = s.1 * t
    rw [rpt_len, hs.2 (by omega), Nat.mul_comm]
theorem times_ok {r : List Nat} (h : ¬ (r ≠ [] ∧ within r 2 24 = false)) : 1 ≤ timesOf r ∧ timesOf r ≤ 24 ∧ (r ≠ [] → 1 ≤ r.length) := by
  unfold timesOf
  by_cases e : r = []
  · rw [if_pos e]; exact ⟨by decide, by decide, fun z => absurd e z⟩
  · rw [if_neg e]
    have : within r 2 24 = true := by
      cases hw : within r 2 24 with
      | true => rfl
      | false => exact absurd ⟨e, hw⟩ h
    have := within_iff.mp this
    exact ⟨by omega, this.2.2.2, fun _ => this.1⟩
theorem item_gd {z : List Nat} {rp : Option (Nat → Res)} (hp : ∀ f, rp = some f → Gd z f) : Gd z (item rp z) := by
  intro a s e ha h
  unfold item at h
  split at h
  · cases h
  · split at h
    · cases h
    · rename_i c hc
      have hl := (List.getElem?_eq_some_iff.mp hc).1
      have hb := bd_ge z a
      split at h
      · cases h
      · split at h
        · cases h
        · rename_i ht
          obtain ⟨t1, t2, t3⟩ := times_ok ht
          split at h
          · cases h
            refine ⟨by omega, by omega, ?_, ?_⟩
            · show 1 ≤ 1 * _; omega
            · refine Gb.small (by show 1 * _ ≤ 24; omega) (by omega) ?_
              show (rpt _ [c]).length = 1 * _
              rw [rpt_len, List.length_singleton]; omega
          · split at h
            · cases h
            · rename_i f
              have g := hp f rfl
              unfold close at h
              split at h
              · cases h
              · rename_i s' e' hf
                obtain ⟨g1, g2, g3, g4⟩ := g _ _ _ (by omega) hf
                split at h
                · rename_i h41
                  have := (List.getElem?_eq_some_iff.mp h41).1
                  cases h
                  refine ⟨by omega, by omega, Nat.mul_pos g3 t1, g4.rep g3 t1 t2 (by omega)⟩
                · cases h
theorem items_gd {z : List Nat} {ri : Nat → Res} (hi : Gd z ri) {a0 : Nat} : ∀ (f a : Nat) (p s : Stv) (e : Nat), a0 ≤ a → a ≤ z.length → Gb p (a - a0) → items ri z f a p = .ok (s, e) → a ≤ e ∧ e ≤ z.length ∧ Gb s (e - a0) ∧ (s.1 = 0 ∨ a < e ∨ s = p)
  | 0, a, p, s, e, h0, ha, hp, h => by
    unfold items at h
    cases h
    exact ⟨by omega, ha, hp, .inr (.inr rfl)⟩
  | f + 1, a, p, s, e, h0, ha, hp, h => by
    unfold items at h
    split at h
    · cases h
      exact ⟨by omega, ha, hp, .inr (.inr rfl)⟩
    · split at h
      · unfold goOn at h
        split at h
        · cases h
        · rename_i s' e' hf
          obtain ⟨g1, g2, g3, g4⟩ := hi _ _ _ ha hf
          have := items_gd hi (a0 := a0) f e' (beh p s') s e (by omega) g2 (by
            have := hp.beh g4
            rw [show a - a0 + (e' - a) = e' - a0 by omega] at this
            exact this) h
          exact ⟨by omega, this.2.1, this.2.2.1, .inr (.inl (by omega))⟩
      · cases h
        exact ⟨by omega, ha, hp, .inr (.inr rfl)⟩
theorem filled_gd {z : List Nat} {a e : Nat} {p s : Stv} (ha : a ≤ z.length) (hp : p.1 ≤ 24 → p.2.length = p.1) (h : filled z a p = .ok (s, e)) : a < e ∧ e ≤ z.length ∧ 1 ≤ s.1 ∧ s.1 ≤ 24 ∧ s.2.length = s.1 := by
  unfold filled at h
  split at h
  · cases h
  · rename_i hr
    split at h
    · cases h
    · rename_i hw
      have : within (run z a) (max 1 p.1) 24 = true := by
        cases hc : within (run z a) (max 1 p.1) 24 with
        | true => rfl
        | false => exact absurd (.inr hc) hw
      obtain ⟨w1, w2, w3, w4⟩ := within_iff.mp this
      cases h
      refine ⟨by unfold bd; omega, bd_le ha, by show 1 ≤ num _; omega, w4, ?_⟩
      show (p.2 ++ List.replicate _ 46).length = num _
      rw [List.length_append, List.length_replicate, hp (by omega)]
      omega
theorem part_gd {z : List Nat} {ri : Nat → Res} (hi : Gd z ri) : Gd z (part ri z) := by
  intro a s e ha h
  unfold part goOn at h
  split at h
  · cases h
  · rename_i p e' hf
    obtain ⟨g1, g2, g3, g4⟩ := items_gd hi (a0 := a) _ a (0, []) p e' (Nat.le_refl _) ha ⟨by rw [Nat.sub_self]; decide, fun _ => rfl⟩ hf
    unfold partEnd at h
    split at h
    · cases h
    · rename_i hp0
      have hlt : a < e' := by
        rcases g4 with g | g | g
        · exact absurd g hp0
        · exact g
        · rw [g] at hp0; exact absurd rfl hp0
      split at h
      · rename_i h64
        have := (List.getElem?_eq_some_iff.mp h64).1
        obtain ⟨f1, f2, f3, f4, f5⟩ := filled_gd (by omega) g3.2 h
        exact ⟨by omega, f2, f3, Gb.small f4 (by omega) f5⟩
      · cases h
        exact ⟨hlt, g2, by omega, g3⟩
def Gps (ps : List Stv) (w : Nat) : Prop := lcmL ps + 1 ≤ 2 ^ (5 * w) ∧ ∀ p ∈ ps, 1 ≤ p.1 ∧ (p.1 ≤ 24 → p.2.length = p.1)
theorem lcm_le_mul {a b : Nat} (ha : 1 ≤ a) (hb : 1 ≤ b) : Nat.lcm a b ≤ a * b := Nat.le_of_dvd (Nat.mul_pos ha hb) (Nat.lcm_dvd_mul a b)
theorem Gps.snoc {ps : List Stv} {s : Stv} {x y : Nat} (h : Gps ps x) (h1 : 1 ≤ s.1) (hs : Gb s y) : Gps (ps ++ [s]) (x + y) := by
  refine ⟨?_, fun p hp => ?_⟩
  · rw [lcmL_snoc, Nat.mul_add, Nat.pow_add]
    refine Nat.le_trans ?_ (Nat.mul_le_mul h.1 hs.1)
    have := lcm_le_mul (lcmL_pos fun p hp => (h.2 p hp).1) h1
    rw [Nat.add_mul, Nat.mul_add]
    omega
  · rcases List.mem_append.mp hp with hp | hp
    · exact h.2 p hp
    · rw [List.mem_singleton.mp hp]; exact ⟨h1, hs.2⟩
theorem Gps.shown {ps : List Stv} {w : Nat} (h : Gps ps w) : 1 ≤ (shown ps).1 ∧ Gb (shown ps) w :=
  ⟨lcmL_pos fun p hp => (h.2 p hp).1, h.1, fun _ => showN_len _ _⟩
theorem Gps.one {s : Stv} {w : Nat} (h1 : 1 ≤ s.1) (h : Gb s w) : Gps [s] w := by
  refine ⟨?_, fun p hp => ?_⟩
  · show Nat.lcm 1 s.1 + 1 ≤ _
    rw [show Nat.lcm 1 s.1 = s.1 by simp [Nat.lcm]]; exact h.1
  · rw [List.mem_singleton.mp hp]; exact ⟨h1, h.2⟩
theorem Gps.mono {ps : List Stv} {x y : Nat} (h : Gps ps x) (e : x ≤ y) : Gps ps y := ⟨Nat.le_trans h.1 (pow_mono5 e), h.2⟩
theorem more_gd {z : List Nat} {rq : Nat → Res} (hi : Gd z rq) {a0 : Nat} : ∀ (f a : Nat) (ps : List Stv) (s : Stv) (e : Nat), a0 ≤ a → a ≤ z.length → Gps ps (a - a0) → more rq z f a ps = .ok (s, e) → a ≤ e ∧ e ≤ z.length ∧ 1 ≤ s.1 ∧ Gb s (e - a0)
  | 0, a, ps, s, e, h0, ha, hp, h => by
    unfold more at h
    cases h
    exact ⟨by omega, ha, hp.shown⟩
  | f + 1, a, ps, s, e, h0, ha, hp, h => by
    unfold more at h
    split at h
    · rename_i h38
      have hl := (List.getElem?_eq_some_iff.mp h38).1
      unfold goOn at h
      split at h
      · cases h
      · rename_i s' e' hf
        obtain ⟨g1, g2, g3, g4⟩ := hi _ _ _ (by omega) hf
        have := more_gd hi (a0 := a0) f e' (ps ++ [s']) s e (by omega) g2 ((hp.snoc g3 g4).mono (by omega)) h
        exact ⟨by omega, this.2⟩
    · cases h
      exact ⟨by omega, ha, hp.shown⟩
theorem parts_gd {z : List Nat} {ri : Nat → Res} (hi : Gd z ri) : Gd z (parts ri z) := by
  intro a s e ha h
  unfold parts goOn at h
  split at h
  · cases h
  · rename_i s' e' hf
    obtain ⟨g1, g2, g3, g4⟩ := part_gd hi _ _ _ ha hf
    have := more_gd (part_gd hi) (a0 := a) _ e' [s'] s e (by omega) g2 (Gps.one g3 g4) h
    exact ⟨by omega, this.2⟩
theorem rdItem_zero (z : List Nat) : rdItem z 0 = item none z := by unfold rdItem; rfl
theorem rdItem_succ (z : List Nat) (d : Nat) : rdItem z (d + 1) = item (some (rd z d)) z := by conv => lhs; unfold rdItem
theorem rd_eq (z : List Nat) (d : Nat) : rd z d = parts (rdItem z d) z := by unfold rd; rfl
theorem rdItem_gd (z : List Nat) : ∀ d, Gd z (rdItem z d)
  | 0 => by rw [rdItem_zero]; exact item_gd fun f e => nomatch e
  | d + 1 => by
    rw [rdItem_succ]
    refine item_gd fun f e => ?_
    cases e
    rw [rd_eq]
    exact parts_gd (rdItem_gd z d)
theorem rd_gd (z : List Nat) (d : Nat) : Gd z (rd z d) := by rw [rd_eq]; exact parts_gd (rdItem_gd z d)
end Fg
/-! What the walk of the reader asks. -/
namespace Fg
open PySem PySem.Spec PyProof.Rows L2
theorem range_getD_map {α β : Type} (xs : List α) (d : α) (g : α → β) : (List.range xs.length).map (fun i => g (xs.getD i d)) = xs.map g := by
  refine List.ext_getElem? fun i => ?_
  rw [List.getElem?_map, List.getElem?_map]
  by_cases h : i < xs.length
  · rw [List.getElem?_range h, Option.map_some, List.getD_eq_getElem?_getD, List.getElem?_eq_getElem h]
    rfl
  · rw [List.getElem?_eq_none (by simpa using h), List.getElem?_eq_none (by omega)]
    rfl
def PartsAt (H : Hp) (qs : List Addr) (ps : List Stv) : Prop := qs.length = ps.length ∧ ∀ (i : Nat) (q : Addr) (p : Stv), qs[i]? = some q → ps[i]? = some p → H q = some (Sv p.1 p.2)
theorem PartsAt.mono {H H' : Hp} {qs : List Addr} {ps : List Stv} (h : PartsAt H qs ps) (s : Same H H') : PartsAt H' qs ps := ⟨h.1, fun i q p a b => s _ _ (h.2 i q p a b)⟩
/-- below some thousand bits -/
def Big (n : Nat) : Prop := n < 2 ^ 8600
theorem Big.le {n m : Nat} (h : Big n) (e : m ≤ n) : Big m := Nat.lt_of_le_of_lt e h
theorem Big.div {n : Nat} {a : Int} (h : Big n) (h0 : (0 : Int) < (n : Int)) : CDivW a (n : Int) := wide_div (b := 8600) h0 (by rw [Int.natAbs_natCast]; exact h) (by decide) (by decide)
theorem Big.mul {n m : Nat} (h : Big n) (h' : Big m) : IntMulOk (n : Int) (m : Int) := CMulW.ok (wide_mul (a := 8600) (b := 8600) (by rw [Int.natAbs_natCast]; exact h) (by rw [Int.natAbs_natCast]; exact h') (by decide) (by decide) (by decide))
theorem Gb.big {s : Stv} {w : Nat} (h : Gb s w) (hw : w ≤ 1700) : Big s.1 := Nat.lt_of_lt_of_le (Nat.lt_of_lt_of_le (Nat.lt_succ_self _) h.1) (Nat.pow_le_pow_right (by decide) (by omega))
theorem Gps.big {ps : List Stv} {w : Nat} (h : Gps ps w) (hw : w ≤ 1700) : Big (lcmL ps) := Nat.lt_of_lt_of_le (Nat.lt_of_lt_of_le (Nat.lt_succ_self _) h.1) (Nat.pow_le_pow_right (by decide) (by omega))
theorem lcmL_take {ps : List Stv} (h : ∀ p ∈ ps, 1 ≤ p.1) (i : Nat) : lcmL (ps.take i) ≤ lcmL ps := by
  refine Nat.le_of_dvd (lcmL_pos h) ?_
  conv => rhs; rw [← List.take_append_drop i ps]
  unfold lcmL
  rw [List.foldl_append]
  exact (dvd_fold _ _).1
/-- int(text) -/
def rIntTx : RC := fun xs H Q => ∃ a n, xs = [.str a] ∧ PySem.intText? a = some n ∧ a.length ≤ 640 ∧ Q (.int n) H
theorem call_intTx {X : Cx} : CallR X (.type "int") rIntTx := call_int_str
theorem int1 : ∀ c ∈ DG, PySem.intText? ⟨#[c]⟩ = some ((num [c] : Nat) : Int) := by decide +kernel
theorem int2 : ∀ c ∈ DG, ∀ d ∈ DG, PySem.intText? ⟨#[c, d]⟩ = some ((num [c, d] : Nat) : Int) := by decide +kernel
theorem i_intTx {r : List Nat} {H : Hp} {Q : VK} (h1 : 1 ≤ r.length) (h2 : r.length ≤ 2) (hd : ∀ c ∈ r, c ∈ DG) (q : Q (.int ((num r : Nat) : Int)) H) : rIntTx [S r] H Q := by
  match r, h1, h2, hd, q with
  | [c], _, _, hd, q => exact ⟨_, _, rfl, int1 c (hd c (by simp)), (show 1 ≤ 640 by omega), q⟩
  | [c, d], _, _, hd, q => exact ⟨_, _, rfl, int2 c (hd c (by simp)) d (hd d (by simp)), (show 2 ≤ 640 by omega), q⟩
/-- str(int), of small ones -/
def dec (n : Nat) : List Nat := if n < 10 then [48 + n] else [48 + n / 10, 48 + n % 10]
theorem dec_str : ∀ n : Nat, n < 100 → (toString (n : Int) : Str) = ⟨(dec n).toArray⟩ := by decide +kernel
def rStrS : RC := fun xs H Q => ∃ n : Nat, xs = [.int (n : Int)] ∧ n < 100 ∧ Q (S (dec n)) H
theorem call_strS {X : Cx} : CallR X (.type "str") rStrS := by
  intro pins s σ H xs us Q I rs h
  obtain ⟨n, rfl, hn, q⟩ := h
  refine call_str_int pins s σ H _ us Q I rs ⟨(n : Int), rfl, ?_, ?_⟩
  · have : (n : Int).natAbs = n := Int.natAbs_natCast n
    rw [this]
    by_cases h0 : n = 0
    · subst h0; decide
    · exact Nat.lt_trans ((Nat.log2_lt h0).mpr (Nat.lt_trans hn (by decide : 100 < 2 ^ 7))) (by decide)
  · have e : V.str (toString (n : Int)) = S (dec n) := by unfold S; rw [dec_str n hn]
    rw [e]; exact q
def rpOf (z : List Nat) : Nat → Option (Nat → Res)
  | 0 => none
  | d + 1 => some (rd z d)
theorem rdItem_item (z : List Nat) (d : Nat) : rdItem z d = item (rpOf z d) z := by
  cases d with
  | zero => exact rdItem_zero z
  | succ d => exact rdItem_succ z d
/-- what is no string -/
def NoStr (H : Hp) (x : V) : Prop := x = .non ∨ (∃ b, x = .bl b) ∨ (∃ i, x = .int i) ∨ ∃ a xs, x = .ref a ∧ (H a = some (.tup xs) ∨ H a = some (.lst xs))
theorem NoStr.mono {H H' : Hp} {x : V} (h : NoStr H x) (s : Same H H') : NoStr H' x := by
  rcases h with h | h | h | ⟨a, xs, h, h2⟩
  · exact .inl h
  · exact .inr (.inl h)
  · exact .inr (.inr (.inl h))
  · exact .inr (.inr (.inr ⟨a, xs, h, h2.imp (s _ _) (s _ _)⟩))
end Fg
namespace Fg
open PySem PySem.Spec PyProof.Rows L2
/-! ### texts put together -/
theorem joinL_len (ls : List (List Nat)) : (TL.joinL [38] ls).length ≤ (ls.map fun l => l.length + 1).sum := by
  induction ls with
  | nil => exact Nat.le_refl _
  | cons p r ih =>
    cases r with
    | nil => show p.length ≤ _; rw [List.map_cons, List.sum_cons]; omega
    | cons q r =>
      show (p ++ ([38] ++ TL.joinL [38] (q :: r))).length ≤ _
      rw [List.map_cons, List.sum_cons, List.length_append, List.length_append]
      have : ([38] : List Nat).length = 1 := rfl
      omega
theorem joinL_len1 (ls : List (List Nat)) (h : ls ≠ []) : (TL.joinL [38] ls).length + 1 ≤ (ls.map fun l => l.length + 1).sum := by
  induction ls with
  | nil => exact absurd rfl h
  | cons p r ih =>
    cases r with
    | nil => show p.length + 1 ≤ _; rw [List.map_cons, List.sum_cons]; omega
    | cons q r =>
      have := ih (by simp)
      show (p ++ ([38] ++ TL.joinL [38] (q :: r))).length + 1 ≤ _
      rw [List.map_cons, List.sum_cons, List.length_append, List.length_append]
      have : ([38] : List Nat).length = 1 := rfl
      omega
theorem join_sep (sep : List Nat) (ls : List (List Nat)) : Txt.join ⟨sep.toArray⟩ (ls.map fun l => (⟨l.toArray⟩ : Str)) = ⟨(TL.joinL sep ls).toArray⟩ := by
  refine TL.ext_tl ?_
  rw [TL.join_eq, TL.tl_join, List.map_map]
  show TL.joinL sep.toArray.toList (ls.map fun l => l.toArray.toList) = (TL.joinL sep ls).toArray.toList
  simp
theorem i_joinG {K : PySem.W.Frag} {H : Hp} {Q : VK} {p : Addr} {sep : List Nat} {ls : List (List Nat)} (hs : SqL K H p (ls.map S)) (hz : (ls.map List.length).sum + ls.length * sep.length ≤ 100000) (q : Q (S (TL.joinL sep ls)) H) : rJoinP K (S sep) [.ref p] H Q := by
  refine ⟨⟨sep.toArray⟩, p, ls.map fun l => (⟨l.toArray⟩ : Str), rfl, rfl, .inl ?_, ?_, ?_⟩
  · rw [List.map_map]; exact hs
  · rw [List.map_map]
    have e : (ls.map ((·.length) ∘ fun l => (⟨l.toArray⟩ : Str))) = ls.map List.length := List.map_congr_left fun l _ => str_len l
    rw [e, List.length_map]
    have e2 : (⟨sep.toArray⟩ : Str).length = sep.length := str_len sep
    show (ls.map List.length).sum + ls.length * (⟨sep.toArray⟩ : Str).length ≤ _
    rw [e2]
    exact Nat.le_trans hz (by decide)
  · rw [join_sep]; exact q
theorem sum_len1 (ls : List (List Nat)) : (ls.map fun l => l.length + 1).sum = (ls.map List.length).sum + ls.length := by
  induction ls with
  | nil => rfl
  | cons p r ih => rw [List.map_cons, List.map_cons, List.sum_cons, List.sum_cons, ih, List.length_cons]; omega
theorem upd_comm {H : Hp} {a b : Addr} {o o' : HO} (h : a ≠ b) : upd (upd H a o) b o' = upd (upd H b o') a o := by
  funext c
  by_cases h1 : c = b
  · rw [h1, upd_same, upd_ne (Ne.symm h), upd_same]
  · rw [upd_ne h1]
    by_cases h2 : c = a
    · rw [h2, upd_same, upd_same]
    · rw [upd_ne h2, upd_ne h2, upd_ne h1]
def ones (n : Nat) : List V := List.replicate n (.int 1)
theorem ones_succ (n : Nat) : ones n ++ [.int 1] = ones (n + 1) := by
  unfold ones
  rw [List.replicate_succ', ]
theorem dec_len (n : Nat) : (dec n).length ≤ 2 := by
  unfold dec
  split <;> simp
end Fg
/-! Own special methods: len(o), o[i], == of instances, isinstance of an instance. -/
namespace Fg
open PySem PySem.Spec PyProof.Rows L2
/-- a special method that stands in the text, with its promise -/
def DOK (P : Program) (w : World) (K : PySem.W.Frag) (mg : Str → Option Value) (base : Heap) (CX : CXT) (k : Nat) (C : Addr) (m : Str) (ps : List Str) (sp : Sp) : Prop :=
  ∃ (f : Addr) (fd : FuncData), Meth K C m f ∧ PySem.W.fnIn K f = true ∧ FnOk P w K mg base CX k f fd ps sp ∧ Binds K fd ps []
section
variable {P : Program} {w : World} {K : PySem.W.Frag} {mg : Str → Option Value} {base : Heap} {q m : Str} {st : Stmt} {N ps : List Str} {k : Nat} {sp : Sp} {C : Addr}
theorem FunD.fnIn {x q : Str} {ag : Arguments} {bd : List Stmt} {sc : Scope} {dvs : List V} {kws : List (Str × V)} {f : Addr} {fd : FuncData} (F : FunD K x q ag bd sc dvs kws f fd) : PySem.W.fnIn K f = true := by
  obtain ⟨⟨_, _, _, _, _, _, _, _, _, _, e, h, _⟩, _⟩ := F
  unfold PySem.W.fnIn
  rw [h, e]
theorem DOK.mk (D : MetIn K C m q st ps []) (S : FnScope N ps (defScope st)) (len : ∀ vs H Q E, sp vs H Q E → vs.length = ps.length)
    (body : ∀ (f : Addr) (cdv : Value) (A : Around) (outer : List Env) (s : Shared) (H : Hp) (vs : List V) (Q : VK) (E : XK), Room k (A.deeper (envOfC q (defScope st) s.heap.objs.size f cdv)) → sp vs H Q E →
      ∃ t, PSs (cxOf CX0 P w K mg base N q (defScope st) f cdv A outer s H E).nox (defBody st) t ∧ t { nx := fun _ H' => Q .non H', rt := Q } (start N vs) H) : DOK P w K mg base CX0 (k + 1) C m ps sp := by
  obtain ⟨f, fd, hm, F, hb, _⟩ := D
  exact ⟨f, fd, hm, FunD.fnIn F, FunD.ok0 F S len fun cdv A outer s H vs Q E hr h => body f cdv A outer s H vs Q E hr h, hb⟩
theorem DOK.mkX (D : MetIn K C m q st ps []) (S : FnScope N ps (defScope st)) (len : ∀ vs H Q E, sp vs H Q E → vs.length = ps.length)
    (body : ∀ (f : Addr) (cdv : Value) (A : Around) (outer : List Env) (s : Shared) (H : Hp) (vs : List V) (Q : VK) (E : XK), Room k (A.deeper (envOfC q (defScope st) s.heap.objs.size f cdv)) → sp vs H Q E →
      ∃ t, PSs (cxOf (L2.CX P w) P w K mg base N q (defScope st) f cdv A outer s H E) (defBody st) t ∧ t { nx := fun _ H' => Q .non H', rt := Q } (start N vs) H) : DOK P w K mg base (L2.CX P w) (k + 1) C m ps sp := by
  obtain ⟨f, fd, hm, F, hb, _⟩ := D
  exact ⟨f, fd, hm, FunD.fnIn F, F.ok S len fun cdv A outer s H vs Q E hr h => body f cdv A outer s H vs Q E hr h, hb⟩
end
section
variable {X : Cx} {CX : CXT} {k : Nat} {f C a : Addr} {fd : FuncData} {ps : List Str} {sp : Sp} {E : XK} {pins : List (Addr × Obj)} {σ : L2.St} {H : Hp} {s : Shared}
/-- a def is run within a built-in -/
theorem run_in {A1 : Around} (F : FnOk X.prog X.w X.K X.mg X.base CX k f fd ps sp) (hr : Room k A1) (hf : A1.frames = X.A.frames) (hb : Binds X.K fd ps []) (hx : Passes CX X E)
    {Q : VK} {us : List Value} {vs : List V} (I : Inv X pins σ H s) (r : Vals vs us) (h : sp vs H Q E) : wpAny (model X.prog X.w) A1 (call (.ref f) us) (EP X pins σ Q) X.xe s := by
  have e0 : Env0 X.prog X.w X.K X.mg X.base A1 X.stack s H := by
    have e := I.env0
    exact ⟨by rw [hf]; exact e.frames, e.mod, e.bs, e.bsz, e.funs, e.frf, e.hok, e.bare⟩
  have hl := F.len _ _ _ _ h
  have b1 := hb s us I.kIn (by rw [List.append_nil, ← r.length]; exact hl)
  rw [List.append_nil] at b1
  refine wpAny_call (codeAny_mono (F.run A1 X.stack s H ⟨us, []⟩ us vs Q E hr e0 b1 r h) fun res t2 h2 => ?_)
  cases res with
  | error z => exact hx pins σ H s z t2 I h2
  | ok fl =>
    cases fl with
    | next => exact h2.elim
    | brk => exact h2.elim
    | cont => exact h2.elim
    | ret u => exact I.after h2
/-! ### len(o) -/
def rLenO (C : Addr) (sp : Sp) (E : XK) : RC := fun xs H Q => ∃ a dx fs, xs = [.ref a] ∧ H a = some (.ins C dx fs) ∧ sp [.ref a] H (fun v H' => ∃ n : Nat, v = .int (n : Int) ∧ n ≤ 100000 ∧ Q v H') E
theorem call_lenO (G : DOK X.prog X.w X.K X.mg X.base CX k C "__len__" ps sp) (hr : Room (k + 1) X.A) (hx : Passes CX X E) : CallR X (.builtin "len") (rLenO C sp E) := by
  intro pins s σ H xs us Q I r h
  obtain ⟨a, dx, fs, rfl, ha, q⟩ := h
  obtain ⟨f, fd, hm, _, F, hb⟩ := G
  cases r with
  | cons ru rn =>
    cases rn
    cases (show _ = Value.ref a from ru)
    obtain ⟨mA, J, _⟩ := ins_get I.hok ha
    obtain ⟨od, J, _⟩ := J.look
    obtain ⟨m, hF⟩ := I.fr
    refine PySem.W.len_K hF I.ok.mod.kin J hm.at_ hm.fn ?_
    refine wpAny_mono (run_in F hr.in1 rfl hb hx I (show Vals [V.ref a] [Value.ref a] from .cons rfl .nil) q) (fun u s1 hq => ?_) fun _ _ z => z
    obtain ⟨v, H1, I1, rv, n, rfl, hn, q1⟩ := hq
    obtain ⟨t, rfl⟩ := rv
    exact ⟨⟨by omega, by omega⟩, .int (n : Int), H1, I1.tok (s1.toks + 1), ⟨_, rfl⟩, q1⟩
/-! ### o[e] -/
def tIxO (C : Addr) (sp : Sp) (E : XK) (to te : TE) : TE := fun σ H Q => to σ H fun x H1 => te σ H1 fun y H2 => ∃ a dx fs, x = .ref a ∧ H2 a = some (.ins C dx fs) ∧ sp [x, y] H2 Q E
theorem pe_ixO {o e : Expr} {to te : TE} {pos : PySem.Pos} (ho : PE X o to) (he : PE X e te) (G : DOK X.prog X.w X.K X.mg X.base CX k C "__getitem__" ps sp) (hr : Room (k + 1) X.A) (hx : Passes CX X E)
    (hsl : ∀ x i, subscripted e true (.ref x) i = runValue (.builtin "lifetime.subscript" ⟨[.ref x, i], []⟩) := by intro _ _; with_unfolding_all rfl) :
    PE X (.Subscript o e pos) (tIxO C sp E to te) := by
  refine ⟨fun pins s σ H Q I h => ?_⟩
  obtain ⟨f, fd, hm, hfn, F, hb⟩ := G
  refine Subscript_ (binT ho he I h fun v u s2 x y H2 I2 rx ry q => ?_)
  obtain ⟨a, dx, fs, rfl, ha, q⟩ := q
  cases rx
  obtain ⟨mA, J, _⟩ := ins_get I2.hok ha
  obtain ⟨od, J, _⟩ := J.look
  obtain ⟨m, hF⟩ := I2.fr
  exact PySem.W.sub_K hF I2.ok.mod.kin J hm.at_ hfn hm.fn (run_in F hr.in1 rfl hb hx I2 (show Vals [V.ref a, y] [Value.ref a, u] from .cons rfl (.cons ry .nil)) q) (hsl a _)
/-! ### == by an own __eq__ -/
def rEqO (C : Addr) (sp : Sp) (E : XK) : R2 := fun x y H Q => ∃ a dx fs, x = .ref a ∧ H a = some (.ins C dx fs) ∧ ((∃ b dy gs, y = .ref b ∧ H b = some (.ins C dy gs)) ∨ ∃ b ys, y = .ref b ∧ H b = some (.tup ys)) ∧
  sp [x, y] H (fun v H' => ∃ b, v = .bl b ∧ Q v H') E
theorem cmpBack {A1 : Around} {Q : VK} {u : Value} {s1 : Shared} (h : EP X pins σ (fun v H' => ∃ b, v = .bl b ∧ Q v H') u s1) : ∃ b, u = .bool b ∧ EP X pins σ Q u s1 := by
  obtain ⟨v, H1, I1, rv, b, rfl, q⟩ := h
  cases (show u = Value.bool b from rv)
  exact ⟨b, rfl, .bl b, H1, I1, rfl, q⟩
theorem op_eqO (G : DOK X.prog X.w X.K X.mg X.base CX k C "__eq__" ps sp) (hT : PySem.W.notFirst X.K C (.type "tuple") = true) (hr : Room k X.A) (hx : Passes CX X E) : OpR X (compareOp .Eq) (rEqO C sp E) := by
  intro pins s σ H x y v u Q I rx ry h
  obtain ⟨a, dx, fs, rfl, ha, hy, q⟩ := h
  obtain ⟨f, fd, hm, _, F, hb⟩ := G
  cases rx
  obtain ⟨mA, J, _⟩ := ins_get I.hok ha
  obtain ⟨od, J, _⟩ := J.look
  obtain ⟨m, hF⟩ := I.fr
  have back : wpAny (model X.prog X.w) X.A (call (.ref f) [.ref a, u]) (PySem.W.CmpBack (EP X pins σ Q)) X.xe s :=
    wpAny_mono (run_in F hr rfl hb hx I (show Vals [V.ref a, y] [Value.ref a, u] from .cons rfl (.cons ry .nil)) q) (fun w' s1 hq => by
      obtain ⟨b, rfl, e⟩ := cmpBack (A1 := X.A) hq
      exact e) fun _ _ z => z
  rcases hy with ⟨b, dy, gs, rfl, hy⟩ | ⟨b, ys, rfl, hy⟩
  · cases ry
    obtain ⟨mB, J', _⟩ := ins_get I.hok hy
    obtain ⟨od', J', _⟩ := J'.look
    exact PySem.W.cmp_K (op := .Eq) (tb := .ref C) hr.units0 hF I.ok.mod.kin J J'.type (by simp [PySem.W.notFirst]) hm.at_ hm.fn back
  · cases ry
    obtain ⟨its, _, e, _⟩ := I.tuple (.inl (.inl hy))
    obtain ⟨o, ho, hc, _⟩ := id e
    refine PySem.W.cmp_K (op := .Eq) (tb := .type "tuple") hr.units0 hF I.ok.mod.kin J ?_ hT hm.at_ hm.fn back
    exact (PySem.W.Looks.ld ho).andThen (by rw [hc]; exact .now)
/-! ### a tuple == an instance: the instance is asked -/
def rEqR (C : Addr) (sp : Sp) (E : XK) : R2 := fun x y H Q => ∃ a dx fs b ys, y = .ref a ∧ H a = some (.ins C dx fs) ∧ x = .ref b ∧ H b = some (.tup ys) ∧ sp [y, x] H (fun v H' => ∃ b, v = .bl b ∧ Q v H') E
end
end Fg
/-! for x in o, where o's class has an __iter__ that returns iter(a tuple). -/
namespace Fg
open PySem PySem.Spec PyProof.Rows L2
abbrev tItO (t : Addr) : Obj := { cls := .type "tuple_iterator", data := .fields #[.ref t, .int 0 0] }
/-- the iterator, at its beginning -/
def TiO (it t : Addr) : HO := .ext fun h => h.get? it = some (tItO t)
theorem tiO_ok {P : Program} {w : World} {H : Hp} {h : Heap} {it t : Addr} (e : h.get? it = some (tItO t)) : ObjOk P w H h it (TiO it t) := ⟨e, ⟨_, e⟩, fun h1 h2 q k => k _ q⟩
/-- iter(a tuple), the iterator not older than n -/
def rIterT (K : PySem.W.Frag) (n : Nat) : RC := fun xs H Q => ∃ (t : Addr) (zs : List V), xs = [.ref t] ∧ SqT K H t zs ∧ ∀ it, H it = none → n ≤ it → Q (.ref it) (upd H it (TiO it t))
theorem call_iterT {X : Cx} : CallR X (.builtin "iter") (rIterT X.K X.s_0.heap.objs.size) := by
  intro pins s σ H xs us Q I r h
  obtain ⟨t, zs, rfl, hq, q⟩ := h
  obtain ⟨u, rfl, ru⟩ := vals1 r
  cases ru
  obtain ⟨its, rv, pl, hz⟩ := I.tuple hq
  refine Calls.call_function_entry (by decide +kernel) (by decide +kernel) PySem.W.kdk_entry_iter (PySem.W.kdk_args_iter _) ?_
  unfold Builtin.«iter»
  refine wpAny_bind (m := someArgs "iter" 1 2 _) (wpAny_of_eq (a := [Value.ref t]) (by first | rfl | kernel_rfl!) ?_)
  show wpAny _ _ (pyIter (.ref t) >>= _) _ _ _
  refine wpAny_bind (wpAny_pyIter_tuple (show s.heap.IsTuple t its.toArray from pl) ?_)
  refine wpAny_pure ⟨_, rfl, ?_⟩
  exact ⟨.ref s.heap.objs.size, _, I.laid (t' := s.toks) (fun b u e => Heap.get?_push_of_some _ e) (Nat.le_refl _) (tiO_ok (Heap.get?_push_size _ rfl)), rfl, q _ (I.hok.fresh (Nat.le_refl _)) I.sz⟩
theorem cIterT (K : PySem.W.Frag) {X : Cx} (h : X.K = K := by rfl) : CallR X (.builtin "iter") (rIterT K X.s_0.heap.objs.size) := h ▸ call_iterT
/-- a def whose promise speaks of the age of what it makes: n is the heap's size at the call -/
structure NOk (P : Program) (w : World) (K : PySem.W.Frag) (mg : Str → Option Value) (base : Heap) (CX : CXT) (k : Nat) (f : Addr) (fd : FuncData) (ps : List Str) (sp : Nat → Sp) : Prop where
  many : ∀ n vs H Q E, sp n vs H Q E → vs.length = ps.length
  runs : ∀ (B : Around) (o : List Env) (t : Shared) (H : Hp) (ar : Args) (us : List Value) (vs : List V) (Q : VK) (E : XK),
    Room k B → Env0 P w K mg base B o t H → BindsTo t fd ar (ps.zip us) → Vals vs us →
    sp t.heap.objs.size vs H Q E → codeAny (model P w) B (.call (.ref f) ar) (CR CX o P w H t Q E) t
section
variable {P : Program} {w : World} {K : PySem.W.Frag} {mg : Str → Option Value} {base : Heap} {CX : CXT} {k : Nat} {f : Addr} {fd : FuncData} {ps N : List Str} {sp : Nat → Sp} {x q : Str} {st : Stmt} {dvs : List V} {kws : List (Str × V)}
theorem nok_mk (F : FunD K x q (defArgs st) (defBody st) (defScope st) dvs kws f fd) (S : FnScope N ps (defScope st)) (many : ∀ n vs H Q E, sp n vs H Q E → vs.length = ps.length)
    (body : ∀ (cv : Value) (B : Around) (o : List Env) (t : Shared) (H : Hp) (vs : List V) (Q : VK) (E : XK),
      Room k (B.deeper (envOfC q (defScope st) t.heap.objs.size f cv)) → sp t.heap.objs.size vs H Q E →
      ∃ rd, PSs (cxOf CX P w K mg base N q (defScope st) f cv B o t H E) (defBody st) rd ∧
        rd { nx := fun _ H2 => Q .non H2, rt := Q } (start N vs) H) : NOk P w K mg base CX (k + 1) f fd ps sp := by
  obtain ⟨c1, d1, kw1, dc1, pm1, an1, cv1, ct1, sl1, osl1, rfl, at1, code1, _, _⟩ := F.ex
  refine ⟨many, fun B o t H ar us vs Q E room en bd rv asked => ?_⟩
  have inK : K.In t.heap := en.mod.kin.keeps fun b u e => (en.bs b u e).1
  have nolim : t.heap.NoLimit := en.mod.nolimit.keeps fun b u e => (en.bs b u e).1
  have n1 := many _ _ _ _ _ asked
  refine codeAny_call_function room.depth (inK _ _ at1) rfl S.co S.gen rfl
    (PySem.W.codeRec_of inK code1) (bd _ _ _ _ ?_)
  refine wpAny_newFunctionEnv_cells S.kind (fun ⟨nm, u⟩ hm => ?_) fun env he t1 made => ?_
  · exact (S.par nm (List.of_mem_zip hm).1).elim .inl fun z => .inr ⟨z, PySem.W.cellsFrom_some _ _ _ (.inl z)⟩
  subst he
  obtain ⟨rd, walked, holds⟩ := body ct1 B o t H vs Q E (room.deeper _) asked
  have I0 := inv_start (CX := CX) (E := E) S room.hd en n1 rv made
  refine ⟨nolim.keeps made.toInCall.keep, codeAny_func (wpAny_mono (walked.run [] t1 (start N vs) H _ I0 holds) (fun fl t2 h2 => ?_) fun _ _ h2 => h2)⟩
  cases fl with
  | brk => obtain ⟨_, _, _, z⟩ := h2; exact z.elim
  | cont => obtain ⟨_, _, _, z⟩ := h2; exact z.elim
  | next =>
    obtain ⟨_, H2, J, z⟩ := h2
    exact ⟨.non, H2, J.os, J.bare, J.base, J.hok, rfl, z⟩
  | ret u =>
    obtain ⟨v, _, H2, J, rv2, z⟩ := h2
    exact ⟨v, H2, J.os, J.bare, J.base, J.hok, rv2, z⟩
end
/-- __iter__ of the class at C: an iterator over the tuple in the field fl -/
def spIt (K : PySem.W.Frag) (C : Addr) (fl : Str) (n : Nat) : Sp := sp1 fun x H Q _ => ∃ a dx fs t zs, x = .ref a ∧ H a = some (.ins C dx fs) ∧ fs.lookup fl = some (.ref t) ∧ SqT K H t zs ∧ ∀ it, H it = none → n ≤ it → Q (.ref it) (upd H it (TiO it t))
def IOK (P : Program) (w : World) (K : PySem.W.Frag) (mg : Str → Option Value) (base : Heap) (CX : CXT) (k : Nat) (C : Addr) (fl : Str) : Prop :=
  ∃ (f : Addr) (fd : FuncData), Meth K C "__iter__" f ∧ NOk P w K mg base CX k f fd ["self"] (spIt K C fl) ∧ Binds K fd ["self"] []
theorem IOK.mk {P : Program} {w : World} {K : PySem.W.Frag} {mg : Str → Option Value} {base : Heap} {q fl : Str} {st : Stmt} {N : List Str} {k : Nat} {C : Addr} (D : MetIn K C "__iter__" q st ["self"] []) (S : FnScope N ["self"] (defScope st))
    (body : ∀ (f : Addr) (cdv : Value) (A : Around) (outer : List Env) (s : Shared) (H : Hp) (vs : List V) (Q : VK) (E : XK), Room k (A.deeper (envOfC q (defScope st) s.heap.objs.size f cdv)) → spIt K C fl s.heap.objs.size vs H Q E →
      ∃ t, PSs (cxOf CX0 P w K mg base N q (defScope st) f cdv A outer s H E).nox (defBody st) t ∧ t { nx := fun _ H' => Q .non H', rt := Q } (start N vs) H) : IOK P w K mg base CX0 (k + 1) C fl := by
  obtain ⟨f, fd, hm, F, hb, _⟩ := D
  exact ⟨f, fd, hm, nok_mk F S (fun n vs H Q E h => len1 vs H Q E h) fun cv B o t H vs Q E hr h => let ⟨rd, z, e⟩ := body f cv B o t H vs Q E hr h; ⟨rd, z.nox, e⟩, hb⟩
/-- the walk over o -/
def iOwn (K : PySem.W.Frag) (C : Addr) (fl : Str) (te : TE) : TI := fun σ H R => te σ H fun x H1 => ∃ a dx fs t zs, x = .ref a ∧ H1 a = some (.ins C dx fs) ∧ fs.lookup fl = some (.ref t) ∧ SqT K H1 t zs ∧ R (Itt K t) H1
theorem piOwn {X : Cx} {CX : CXT} {k : Nat} {C : Addr} {fl : Str} {E : XK} {tg e : Expr} {te : TE} (he : PE X e te) (G : IOK X.prog X.w X.K X.mg X.base CX k C fl) (hr : Room k X.A) (hx : Passes CX X E) : PI X tg e (iOwn X.K C fl te) := by
  refine ⟨fun pins s σ H R I h => thn (he.run pins s σ H _ I h) fun v s1 ⟨x, H1, J1, r1, q1⟩ => ?_⟩
  obtain ⟨a, dx, fs, t, zs, rfl, ha, hl, hq, q⟩ := q1
  cases r1
  obtain ⟨f, fd, hm, F, hb⟩ := G
  obtain ⟨mA, J, _⟩ := ins_get J1.hok ha
  obtain ⟨od, J, _⟩ := J.look
  obtain ⟨m, hF⟩ := J1.fr
  refine PySem.W.owit_iter hF J1.ok.mod.kin J hm.at_ hm.fn ?_
  have e0 := J1.env0
  have r2 : Vals [V.ref a] [Value.ref a] := .cons rfl .nil
  have b1 := hb s1 [.ref a] J1.kIn rfl
  have asked : spIt X.K C fl s1.heap.objs.size [.ref a] H1 (fun v H' => ∃ it, v = .ref it ∧ H1 it = none ∧ s1.heap.objs.size ≤ it ∧ H' = upd H1 it (TiO it t)) E :=
    ⟨.ref a, rfl, a, dx, fs, t, zs, rfl, ha, hl, hq, fun it n1 n2 => ⟨it, rfl, n1, n2, rfl⟩⟩
  refine wpAny_call (codeAny_mono (F.runs X.A X.stack s1 H1 ⟨[.ref a], []⟩ [.ref a] [.ref a] _ E hr e0 (by simpa using b1) r2 asked) fun res t2 h2 => ?_)
  cases res with
  | error z => exact hx pins σ H1 s1 z t2 J1 h2
  | ok fl' =>
    cases fl' with
    | next => exact h2.elim
    | brk => exact h2.elim
    | cont => exact h2.elim
    | ret u =>
      obtain ⟨v, H2, I2, rv, it, rfl, n1, n2, rfl⟩ := J1.after h2
      cases rv
      have ho := (I2.hok it _ upd_same).1
      have hT : t2.TypeIs (.ref it) "tuple_iterator" := ⟨_, ho, rfl⟩
      have I3 : Inv X pins σ H1 t2 := by
        have := ItX.inv_drop I2 (a := it) upd_same
        rw [ItX.dropH_upd n1] at this
        exact this
      unfold PySem.W.OwitIt
      refine wpAny_specialOf hT PySem.F.slot_tuple_iterator_next.lookup ?_
      refine ⟨it, [it], fun i h => h.IsTupleIter it t i, Itt X.K t, H1, rfl, I3, turn_tuple t it, ⟨_, ho, rfl, rfl⟩, fun b hb' => ?_, q⟩
      have e : b = it := by simpa using hb'
      rw [e]
      exact J1.fpOk n2 n1
theorem piOwnK (K : PySem.W.Frag) {X : Cx} {CX : CXT} {k : Nat} {C : Addr} {fl : Str} {E : XK} {tg e : Expr} {te : TE} (he : PE X e te) (G : IOK X.prog X.w X.K X.mg X.base CX k C fl) (hr : Room k X.A) (hx : Passes CX X E) (h : X.K = K := by rfl) : PI X tg e (iOwn K C fl te) := h ▸ piOwn he G hr hx
/-! ### a tuple == an instance: the tuple says nothing, the instance is asked -/
section
variable {X : Cx} {CX : CXT} {k : Nat} {C : Addr} {ps : List Str} {sp : Sp} {E : XK}
theorem op_eqR (G : DOK X.prog X.w X.K X.mg X.base CX k C "__eq__" ps sp) (hS : PySem.W.subIn X.K (.ref C) (.type "tuple") = some false) (hr : Room k X.A) (hx : Passes CX X E) : OpR X (compareOp .Eq) (rEqR C sp E) := by
  intro pins s σ H x y v u Q I rx ry h
  obtain ⟨a, dx, fs, b, ys, rfl, ha, rfl, hb', q⟩ := h
  obtain ⟨f, fd, hm, _, F, hb⟩ := G
  cases rx
  cases ry
  obtain ⟨mA, J, _⟩ := ins_get I.hok ha
  obtain ⟨od, J, _⟩ := J.look
  obtain ⟨its, _, pl, _⟩ := I.tuple (.inl (.inl hb'))
  have hT : s.TypeIs (.ref b) "tuple" := by
    obtain ⟨o, ho, hc, _⟩ := id pl
    exact ⟨o, ho, hc⟩
  show wpAny (model X.prog X.w) X.A (richCompare .Eq (.ref b) (.ref a)) _ _ _
  unfold richCompare
  simp only [oneThing_ref]
  refine wpAny_holding (wpAny_bind (wpAny_cRoomFor hr.units0 ?_))
  refine wpAny_bind (wpAny_typeOf hT (wpAny_bind (J.type.here ?_)))
  rw [if_pos (show ((Value.type "tuple") != (Value.ref _)) = true from rfl)]
  refine wpAny_bind ((PySem.W.looks_subIn I.kIn hS).here ?_)
  simp only [Bool.false_eq_true, if_false]
  refine wpAny_bind (Q := _) ?_
  unfold tryCompare
  refine wpAny_bind (wpAny_callSpecialIfBound?_slot (name := Str.ofString "__eq__") hT PySem.F.slot_tuple_eq (wpAny_call_entry PySem.F.slot_tuple_eq hT PySem.F.entry_tuple_eq ?_ (PySem.F.args_tuple_eq_2 _ _)))
  show wpAny _ _ (isInstance (.ref a) (.type "tuple") >>= _) _ _ s
  refine wpAny_bind (wpAny_bind (J.type.here ((PySem.W.looks_subIn I.kIn hS).here ?_)))
  refine wpAny_pure ⟨_, rfl, wpAny_pure ?_⟩
  simp only [Bool.not_false, if_true]
  refine wpAny_bind (wpAny_bind (PySem.W.ifBound_K I.kIn J hm.at_ hm.fn ?_))
  refine wpAny_mono (run_in F hr rfl hb hx I (show Vals [V.ref a, V.ref b] [Value.ref a, Value.ref b] from .cons rfl (.cons rfl .nil)) q) (fun w' s1 hq => ?_) fun _ _ z => z
  obtain ⟨bb, rfl, e⟩ := cmpBack (A1 := X.A) hq
  exact wpAny_pure (wpAny_pure e)
end
end Fg
/-! In a try: instances made, o[e]; what an own class tells of its instances. -/
namespace Fg
open PySem PySem.Spec PyProof.Rows L2
section
variable {X : Cx} {CX : CXT} {k : Nat} {f C a : Addr} {fd : FuncData} {x : Str} {ps : List Str} {sp : Sp} {E : XK} {ES : L2.St → XK} {pins : List (Addr × Obj)} {σ : L2.St} {H : Hp} {s : Shared} {dvs : List V} {ds : List Value}
theorem run_inS {A1 : Around} (F : FnOk X.prog X.w X.K X.mg X.base CX k f fd ps sp) (hr : Room k A1) (hf : A1.frames = X.A.frames) (hb : Binds X.K fd ps []) (hx : PassesAt CX X σ E)
    {Q : VK} {us : List Value} {vs : List V} (I : Inv X pins σ H s) (r : Vals vs us) (h : sp vs H Q E) : wpAny (model X.prog X.w) A1 (call (.ref f) us) (EP X pins σ Q) X.xe s := by
  have e0 : Env0 X.prog X.w X.K X.mg X.base A1 X.stack s H := by
    have e := I.env0
    exact ⟨by rw [hf]; exact e.frames, e.mod, e.bs, e.bsz, e.funs, e.frf, e.hok, e.bare⟩
  have hl := F.len _ _ _ _ h
  have b1 := hb s us I.kIn (by rw [List.append_nil, ← r.length]; exact hl)
  rw [List.append_nil] at b1
  refine wpAny_call (codeAny_mono (F.run A1 X.stack s H ⟨us, []⟩ us vs Q E hr e0 b1 r h) fun res t2 h2 => ?_)
  cases res with
  | error z => exact hx pins H s z t2 I h2
  | ok fl =>
    cases fl with
    | next => exact h2.elim
    | brk => exact h2.elim
    | cont => exact h2.elim
    | ret u => exact I.after h2
def tIxOS (C : Addr) (sp : Sp) (ES : L2.St → XK) (to te : TE) : TE := fun σ H Q => to σ H fun x H1 => te σ H1 fun y H2 => ∃ a dx fs, x = .ref a ∧ H2 a = some (.ins C dx fs) ∧ sp [x, y] H2 Q (ES σ)
theorem pe_ixOS {o e : Expr} {to te : TE} {pos : PySem.Pos} (ho : PE X o to) (he : PE X e te) (G : DOK X.prog X.w X.K X.mg X.base CX k C "__getitem__" ps sp) (hr : Room (k + 1) X.A) (hx : ∀ σ, PassesAt CX X σ (ES σ))
    (hsl : ∀ x i, subscripted e true (.ref x) i = runValue (.builtin "lifetime.subscript" ⟨[.ref x, i], []⟩) := by intro _ _; with_unfolding_all rfl) :
    PE X (.Subscript o e pos) (tIxOS C sp ES to te) := by
  refine ⟨fun pins s σ H Q I h => ?_⟩
  obtain ⟨f, fd, hm, hfn, F, hb⟩ := G
  refine Subscript_ (binT ho he I h fun v u s2 x y H2 I2 rx ry q => ?_)
  obtain ⟨a, dx, fs, rfl, ha, q⟩ := q
  cases rx
  obtain ⟨mA, J, _⟩ := ins_get I2.hok ha
  obtain ⟨od, J, _⟩ := J.look
  obtain ⟨m, hF⟩ := I2.fr
  exact PySem.W.sub_K hF I2.ok.mod.kin J hm.at_ hfn hm.fn (run_inS F hr.in1 rfl hb (hx σ) I2 (show Vals [V.ref a, y] [Value.ref a, u] from .cons rfl (.cons ry .nil)) q) (hsl a _)
theorem run_makeS {Q : VK} {us : List Value} {vs : List V} (M : Mk X.K C f) (F : FnOk X.prog X.w X.K X.mg X.base CX k f fd ps sp) (hr : Room (k + 1) X.A) (hb : Binds X.K fd ps ds) (hd : Vals dvs ds)
    (hx : PassesAt CX X σ E) (I : Inv X pins σ H s) (r : Vals vs us)
    (h : ∀ x dx, H x = none → H dx = none → dx ≠ x → sp (.ref x :: (vs ++ dvs)) (upd (upd H dx (.own x)) x (.ins C dx [])) (fun v H2 => v = .non ∧ Q (.ref x) H2) E) :
    wpAny (model X.prog X.w) X.A (call (.ref C) us) (EP X pins σ Q) X.xe s := by
  have hq := h (s.heap.objs.size + 1) s.heap.objs.size (I.hok.fresh (Nat.le_succ _)) (I.hok.fresh (Nat.le_refl _)) (Nat.ne_of_lt (Nat.lt_succ_self _))
  have I2 := Inv.made (C := C) I
  have r2 : Vals (V.ref (s.heap.objs.size + 1) :: (vs ++ dvs)) (Value.ref (s.heap.objs.size + 1) :: (us ++ ds)) := .cons rfl (r.append hd)
  have hl : (Value.ref (s.heap.objs.size + 1) :: us ++ ds).length = ps.length := by
    have e := r2.length
    rw [F.len _ _ _ _ hq] at e
    exact e.symm
  refine wpAny_call (make_map (f := f) I.kIn M.makes M.init (beq_iff_eq.mp M.fn) (codeAny_mono (F.run _ X.stack _ _ ⟨Value.ref (s.heap.objs.size + 1) :: us, []⟩ (Value.ref (s.heap.objs.size + 1) :: (us ++ ds)) _ _ E (hr.make C us [])
    (I2.env0.make C us []) (hb _ (Value.ref (s.heap.objs.size + 1) :: us) I2.kIn hl) r2 hq) fun r s' hq' => ?_))
  cases r with
  | error e => exact hx pins _ _ e s' I2 hq'
  | ok fl =>
    cases fl with
    | ret u =>
      obtain ⟨v, H', I3, rv, ev, q3⟩ := I2.after hq'
      subst ev
      exact ⟨rv, ⟨V.ref (s.heap.objs.size + 1), H', I3, rfl, q3⟩⟩
    | next => exact False.elim hq'
    | brk => exact False.elim hq'
    | cont => exact False.elim hq'
def tMakeS (C : Addr) (sp : Sp) (ES : L2.St → XK) (ta : TA) : TE := fun σ H Q => ta σ H fun vs H1 => ∀ x dx, H1 x = none → H1 dx = none → dx ≠ x → sp (.ref x :: (vs ++ [])) (upd (upd H1 dx (.own x)) x (.ins C dx [])) (fun v H2 => v = .non ∧ Q (.ref x) H2) (ES σ)
theorem pe_mkS {e : Expr} {es : List Expr} {ta : TA} {p pos : PySem.Pos} (G : MkOK X.prog X.w X.K X.mg X.base CX k x C ps dvs sp) (hr : Room (k + 1) X.A) (hx : ∀ σ, PassesAt CX X σ (ES σ)) (ha : PA X (e :: es) ta) (hg : Gl X x := by rfl) (hdb : (x == ("__debug__" : Str)) = false := by decide)
    (he : starEach (e :: es) X.env = (false, eval e X.env) :: starEach es X.env := by rfl) (hpl : (backTo pos (starEach es X.env)).any (·.1) = false := by rfl) :
    PE X (.Call (.Name x p) (e :: es) [] pos) (tMakeS C sp ES ta) := by
  obtain ⟨f, fd, M, hm, F, hb, _⟩ := G
  refine ⟨fun pins s σ H Q I h => ?_⟩
  refine wpAny_Call_Name_kw (ld_glob I hg hm ?_ hdb)
  refine PySem.W.callWith_K (h₀ := X.base) I.ok.mod.kin M.kp (thn (ha.run pos pins s σ H _ I h) fun us s1 ⟨vs, H1, I1, r, q⟩ => ⟨I1.kIn, ?_⟩) he hpl
  exact run_makeS M F hr hb .nil (hx σ) I1 r q
end
/-! ### isinstance of an instance -/
structure InsC (K : PySem.W.Frag) (C : Addr) : Prop where
  cl : Cls K C
  ha : PySem.W.findIn K (.ref C) "__class__" = some (some (.builtin "object.__class__"))
  hn : PySem.W.specialIn K (.builtin "object.__class__") "__get__" = some (some (.builtin "getset_descriptor.__get__"))
  ht : PySem.W.takesIn K (.builtin "object.__class__") = some true
  hm : PySem.W.mroIn K C (.type "object") = some true
theorem kit_bltn {K : PySem.W.Frag} {T : String} {D : Addr} {b : Bool} (hi : PySem.W.isClsIn K D = true) (ht : PySem.W.typeIn K (.ref D) = some (.type "type")) (e : PySem.W.subIn K (.type T) (.ref D) = some b) : PySem.W.kitOne K (.type T) (.ref D) = some b := by
  unfold PySem.W.kitOne
  rw [if_neg (by simp)]
  show (if ((PySem.W.clsIn K D).isSome && PySem.W.typeIn K (.ref D) == some (.type "type")) = true then PySem.W.subIn K (.type T) (.ref D) else none) = _
  rw [show (PySem.W.clsIn K D).isSome = true from hi, ht, if_pos (by simp)]
  exact e
section
variable {K : PySem.W.Frag} {σ : L2.St} {H : Hp} {Q : VK} {E : XK} {ES : L2.St → XK} {C a dx : Addr} {fs : List (Str × V)} {to te : TE} {ta : TA} {sp : Sp} {c y v : V} {cv : Value} {b : Bool} {d : PyData} {R : It → Hp → Prop}
theorem i_isiO (h : H a = some (.ins C dx fs)) (T : InsC K C) (kc : ClsV c cv) (e : PySem.W.kitOne K (.ref C) cv = some b) (q : Q (.bl b) H) : rIsi K [.ref a, c] H Q := ⟨_, _, _, _, b, rfl, kc, .base (.ins h T.cl T.ha T.hn T.ht T.hm), e, q⟩
theorem i_isiDO (h : At H v d) (kc : ClsV c cv) (e : PySem.W.kitOne K (.type (kindD d)) cv = some b) (q : Q (.bl b) H) : rIsi K [v, c] H Q := ⟨_, _, _, _, b, rfl, kc, h.ty K, e, q⟩
theorem i_ixO (q : to σ H fun x H1 => te σ H1 fun y H2 => ∃ a dx fs, x = .ref a ∧ H2 a = some (.ins C dx fs) ∧ sp [x, y] H2 Q E) : tIxO C sp E to te σ H Q := q
theorem i_ixOS (q : to σ H fun x H1 => te σ H1 fun y H2 => ∃ a dx fs, x = .ref a ∧ H2 a = some (.ins C dx fs) ∧ sp [x, y] H2 Q (ES σ)) : tIxOS C sp ES to te σ H Q := q
theorem i_makeS (q : ta σ H fun vs H1 => ∀ x dx, H1 x = none → H1 dx = none → dx ≠ x → sp (.ref x :: (vs ++ [])) (upd (upd H1 dx (.own x)) x (.ins C dx [])) (fun v H2 => v = .non ∧ Q (.ref x) H2) (ES σ)) : tMakeS C sp ES ta σ H Q := q
theorem i_lenO (h : H a = some (.ins C dx fs)) (q : sp [.ref a] H (fun v H' => ∃ n : Nat, v = .int (n : Int) ∧ n ≤ 100000 ∧ Q v H') E) : rLenO C sp E [.ref a] H Q := ⟨a, dx, fs, rfl, h, q⟩
theorem i_iOwn {fl : Str} (q : te σ H fun x H1 => ∃ a dx fs t zs, x = .ref a ∧ H1 a = some (.ins C dx fs) ∧ fs.lookup fl = some (.ref t) ∧ SqT K H1 t zs ∧ R (Itt K t) H1) : iOwn K C fl te σ H R := q
end
end Fg
/-! o(..) by an own __call__; e.f, an own property; list(o); o == any other thing. -/
namespace Fg
open PySem PySem.Spec PyProof.Rows L2
section
variable {X : Cx} {CX : CXT} {k : Nat} {f C a : Addr} {fd : FuncData} {ps : List Str} {sp : Sp} {E : XK} {pins : List (Addr × Obj)} {σ : L2.St} {H : Hp} {s : Shared}
/-! ### o(e, ..) -/
def tCallOwn (C : Addr) (sp : Sp) (E : XK) (tf : TE) (t : TA) : TE := fun σ H Q => tf σ H fun y H1 => ∃ a, y = V.ref a ∧ t σ H1 fun vs H2 => (∃ dx fs, H2 a = some (.ins C dx fs)) ∧ sp (V.ref a :: vs) H2 Q E
theorem pe_callOwn {fe e : Expr} {es : List Expr} {pos : PySem.Pos} {tf : TE} {t : TA} (hf : PE X fe tf) (G : DOK X.prog X.w X.K X.mg X.base CX k C "__call__" ps sp) (hr : Room k X.A) (hx : Passes CX X E) (ha : PA X (e :: es) t)
    (ht : eval (.Call fe (e :: es) [] pos) X.env = (do callWith pos (← eval fe X.env) [] (backTo pos (starEach (e :: es) X.env)) (backToKw pos (keywordEach [] X.env))) := by rfl)
    (he : starEach (e :: es) X.env = (false, eval e X.env) :: starEach es X.env := by rfl) (hpl : (backTo pos (starEach es X.env)).any (·.1) = false := by rfl) : PE X (.Call fe (e :: es) [] pos) (tCallOwn C sp E tf t) := by
  refine ⟨fun pins s σ H Q I h => ?_⟩
  obtain ⟨f, fd, hm, hfi, F, hb⟩ := G
  refine Call_ (thn (hf.run pins s σ H _ I h) fun u s1 ⟨y, H1, I1, ry, a, ey, q⟩ => ?_) ht
  subst ey
  obtain rfl : u = Value.ref a := ry
  refine StX.callO_with (thn (ha.run pos pins s1 σ H1 _ I1 q) fun us s2 ⟨vs, H2, I2, r, hi, q2⟩ => ?_) he hpl
  obtain ⟨dx, fs, hi⟩ := hi
  obtain ⟨mA, J, _⟩ := ins_get I2.hok hi
  obtain ⟨od, J, _⟩ := J.look
  refine ⟨⟨C, _, _, J, rfl⟩, wpAny_call (PySem.W.kco_code I2.kIn J rfl hm.at_ hm.fn hfi ?_)⟩
  have hl := F.len _ _ _ _ q2
  have r2 : Vals (V.ref a :: vs) (Value.ref a :: us) := .cons rfl r
  have b1 := hb s2 (Value.ref a :: us) I2.kIn (by rw [List.append_nil, ← r2.length]; exact hl)
  rw [List.append_nil] at b1
  refine codeAny_mono (F.run X.A X.stack s2 H2 ⟨Value.ref a :: us, []⟩ _ _ Q E hr I2.env0 b1 r2 q2) fun res t2 h2 => ?_
  cases res with
  | error z => exact hx pins σ H2 s2 z t2 I2 h2
  | ok fl =>
    cases fl with
    | next => exact h2.elim
    | brk => exact h2.elim
    | cont => exact h2.elim
    | ret u => exact I2.after h2
/-! ### e.f, a property -/
def PropIn (K : PySem.W.Frag) (C : Addr) (m q : Str) (st : Stmt) : Prop :=
  ∃ (p g : Addr) (fd : FuncData), PropOf K C m p g ∧ FunD K m q (defArgs st) (defBody st) (defScope st) [] [] g fd ∧ Binds K fd ["self"] []
def POK (P : Program) (w : World) (K : PySem.W.Frag) (mg : Str → Option Value) (base : Heap) (k : Nat) (C : Addr) (m : Str) (sp : Sp) : Prop :=
  ∃ (p g : Addr) (fd : FuncData), PropOf K C m p g ∧ FnOk P w K mg base CX0 k g fd ["self"] sp ∧ Binds K fd ["self"] []
theorem POK.mk {P : Program} {w : World} {K : PySem.W.Frag} {mg : Str → Option Value} {base : Heap} {q m : Str} {st : Stmt} {N : List Str} {k : Nat} {sp : Sp} {C : Addr} (D : PropIn K C m q st) (S : FnScope N ["self"] (defScope st)) (len : ∀ vs H Q E, sp vs H Q E → vs.length = 1)
    (body : ∀ (f : Addr) (cdv : Value) (A : Around) (outer : List Env) (s : Shared) (H : Hp) (vs : List V) (Q : VK) (E : XK), Room k (A.deeper (envOfC q (defScope st) s.heap.objs.size f cdv)) → sp vs H Q E →
      ∃ t, PSs (cxOf CX0 P w K mg base N q (defScope st) f cdv A outer s H E).nox (defBody st) t ∧ t { nx := fun _ H' => Q .non H', rt := Q } (start N vs) H) : POK P w K mg base (k + 1) C m sp := by
  obtain ⟨p, f, fd, hm, F, hb⟩ := D
  exact ⟨p, f, fd, hm, FunD.ok0 F S len fun cdv A outer s H vs Q E hr h => body f cdv A outer s H vs Q E hr h, hb⟩
def tPropO (C : Addr) (sp : Sp) (ta : TE) : TE := fun σ H Q => ta σ H fun x H1 => ∃ a dx fs, x = .ref a ∧ H1 a = some (.ins C dx fs) ∧ sp [.ref a] H1 Q (fun _ _ _ => False)
theorem pe_propO {m : Str} {e : Expr} {pos : PySem.Pos} {ta : TE} (he : PE X e ta) (c : Cls X.K C) (G : POK X.prog X.w X.K X.mg X.base k C m sp) (hr : Room (k + 1) X.A)
    (hab : attributeBase e m X.env (eval e X.env) = eval e X.env := by rfl) : PE X (.Attribute e m pos) (tPropO C sp ta) := by
  obtain ⟨p, g, fd, hp, F, hb⟩ := G
  exact pe_prop (dvs := []) (ds := []) he c hp F hr hb .nil (fun _ _ _ _ _ _ _ z => z.elim) hab
/-! ### list(o) -/
/-- what len(o) says: the length of the tuple in the field fl -/
def spLen (K : PySem.W.Frag) (C : Addr) (fl : Str) : Sp := sp1 fun x H Q _ => ∃ a dx fs t zs, x = .ref a ∧ H a = some (.ins C dx fs) ∧ fs.lookup fl = some (.ref t) ∧ SqT K H t zs ∧ Q (.int (zs.length : Int)) H
section
variable {A1 : Around} {t it q : Addr} {zs : List V} {Rs : Result → Shared → Prop}
theorem own_loopT (hcm : A1.in1.handled = none) (hz : zs.length ≤ 100000) (hq : H q = none) (hT : SqT X.K H t zs) (hne : it ≠ q) (hdone : ∀ s, Inv X pins σ (upd H q (.lst zs)) s → Rs (.ok (.ret .none)) s) :
    ∀ (n i : Nat), n + i = zs.length → ∀ s, Inv X pins σ (upd H q (.lst (zs.take i))) s → s.heap.IsTupleIter it t i → FpOk X pins H it →
      codeAny (model X.prog X.w) A1 (.builtin "list.extend.loop" ⟨[.ref q, .ref it, .none], []⟩) Rs s := by
  intro n
  induction n with
  | zero =>
    intro i hi s I st fp
    refine codeAny_builtin PySem.F.entry_extend_loop ?_
    rw [Around.under_plainId PySem.F.plain_extend_loop _]
    show wpAny _ A1.in1 (pyNext (.ref it) >>= _) _ _ s
    obtain ⟨f0, f1, f2, f3, f4, f5⟩ := fp
    have hT' : SqT X.K (upd H q (.lst (zs.take i))) t zs := Same.tup (same_upd hq) hT
    obtain ⟨its, rv, p, _⟩ := I.tuple hT'
    have hl := rv.length
    refine wpAny_bind (wpAny_pyNext_tuple_end hcm st (show s.heap.IsTuple t its.toArray from p) (by simp; omega) fun h' eb => ?_)
    have I1 : Inv X pins σ (upd H q (.lst (zs.take i))) { s with heap := h' } := I.turned (t' := s.toks) (fun b o hb e => eb b o hb e) (by rw [upd_ne hne]; exact f0) f1 f3 f4 f5
    rw [List.take_of_length_le (by omega)] at I1
    exact wpAny_pure (hdone _ I1)
  | succ n ih =>
    intro i hi s I st fp
    refine codeAny_builtin PySem.F.entry_extend_loop ?_
    rw [Around.under_plainId PySem.F.plain_extend_loop _]
    show wpAny _ A1.in1 (pyNext (.ref it) >>= _) _ _ s
    have fp0 := fp
    obtain ⟨f0, f1, f2, f3, f4, f5⟩ := fp
    have hT' : SqT X.K (upd H q (.lst (zs.take i))) t zs := Same.tup (same_upd hq) hT
    obtain ⟨its, rv, p, _⟩ := I.tuple hT'
    have hlt : i < zs.length := by omega
    obtain ⟨u, hu, ru⟩ := rv.get (List.getElem?_eq_getElem hlt)
    refine wpAny_bind (wpAny_pyNext_tuple_item st (show s.heap.IsTuple t its.toArray from p) (x := u) (by simpa using hu) fun h' st' sb => ?_)
    have I1 : Inv X pins σ (upd H q (.lst (zs.take i))) { s with heap := h' } := I.turned (t' := s.toks) (fun b o hb e => (sb.2 b hb).trans e) (by rw [upd_ne hne]; exact f0) f1 f3 f4 f5
    show wpAny _ A1.in1 (updateSeq q (·.push u) >>= _) _ _ _
    obtain ⟨z, its2, k2, r2, hl, e⟩ := I1.lstM (upd_same)
    have ht : (zs.take i).length = i := by rw [List.length_take]; omega
    rw [ht] at hl
    have hsl := sizeLine_eq
    refine wpAny_bind (wpAny_updateSeq e rfl (wpAny_pure ⟨plainId_quiet PySem.F.plain_extend_loop _, ?_⟩) (by rw [List.size_toArray, hsl]; omega) (by show (its2.toArray.push u).size ≤ sizeLine + 1; rw [Array.size_push, List.size_toArray, hsl]; omega))
    have I2 := I1.lset (f := (·.push u)) (its' := its2 ++ [u]) (ys := zs.take i ++ [zs[i]]) (t' := s.toks) upd_same e (by simp) (r2.append (.cons ru .nil)) (by rw [List.length_append, ht, List.length_singleton, hsl]; omega)
    rw [upd_upd, ← List.take_succ_eq_append_getElem hlt] at I2
    refine ih (i + 1) (by omega) _ I2 ?_ fp0
    obtain ⟨o, eo, c, d⟩ := st'
    refine ⟨o, ?_, c, d⟩
    have hneq : it ≠ q := hne
    exact (Heap.get?_update_other _ _ (fun z => hneq z.symm)).trans eo
end
/-- a def that never raises is run within a built-in -/
theorem run_in0 {A1 : Around} (F : FnOk X.prog X.w X.K X.mg X.base CX0 k f fd ps sp) (hr : Room k A1) (hf : A1.frames = X.A.frames) (hb : Binds X.K fd ps [])
    {Q : VK} {us : List Value} {vs : List V} (I : Inv X pins σ H s) (r : Vals vs us) (h : sp vs H Q E) {E' : Value → Shared → Prop} : wpAny (model X.prog X.w) A1 (call (.ref f) us) (EP X pins σ Q) E' s := by
  have e0 : Env0 X.prog X.w X.K X.mg X.base A1 X.stack s H := by
    have e := I.env0
    exact ⟨by rw [hf]; exact e.frames, e.mod, e.bs, e.bsz, e.funs, e.frf, e.hok, e.bare⟩
  have hl := F.len _ _ _ _ h
  have b1 := hb s us I.kIn (by rw [List.append_nil, ← r.length]; exact hl)
  rw [List.append_nil] at b1
  refine wpAny_call (codeAny_mono (F.run A1 X.stack s H ⟨us, []⟩ us vs Q E hr e0 b1 r h) fun res t2 h2 => ?_)
  cases res with
  | error z => exact h2.elim
  | ok fl =>
    cases fl with
    | next => exact h2.elim
    | brk => exact h2.elim
    | cont => exact h2.elim
    | ret u => exact I.after h2
theorem hint_own {A1 : Around} {Q : Bool → Shared → Prop} {fl : Str} {t dx : Addr} {fs : List (Str × V)} {zs : List V} (GL : DOK X.prog X.w X.K X.mg X.base CX0 k C "__len__" ["self"] (spLen X.K C fl)) (hr : Room k A1.in1) (hf : A1.in1.frames = X.A.frames)
    (I : Inv X pins σ H s) (ha : H a = some (.ins C dx fs)) (hl : fs.lookup fl = some (.ref t)) (hT : SqT X.K H t zs) (hz : zs.length ≤ 100000) (h : ∀ s' b, Inv X pins σ H s' → Q b s') {E' : Value → Shared → Prop} :
    wpAny (model X.prog X.w) A1 (Builtin.List.listLengthHint (.ref a)) Q E' s := by
  obtain ⟨mA, J, _⟩ := ins_get I.hok ha
  obtain ⟨od, J, _⟩ := J.look
  obtain ⟨m0, hF⟩ := I.fr
  obtain ⟨f, fd, hm, _, F, hb⟩ := GL
  unfold Builtin.List.listLengthHint
  refine wpAny_bind (wpAny_bind (J.type.here ((PySem.W.looks_findIn I.kIn hm.at_).here ?_)))
  refine PySem.W.KFB.if_not rfl ?_
  dsimp only [Option.isSome]
  rw [if_pos rfl]
  refine wpAny_bind (wpAny_rule ?_)
  refine wpAny_bind (wpAny_attempt (PySem.W.len_K hF I.ok.mod.kin J hm.at_ hm.fn ?_))
  refine wpAny_mono (run_in0 F hr hf hb I (show Vals [V.ref a] [Value.ref a] from .cons rfl .nil) (Q := fun v H' => v = .int (zs.length : Int) ∧ H' = H) (E := fun _ _ _ => False) ⟨_, rfl, a, dx, fs, t, zs, rfl, ha, hl, hT, rfl, rfl⟩) (fun u s1 hq => ?_) fun _ _ z => z
  obtain ⟨v, H1, I1, rv, rfl, rfl⟩ := hq
  obtain ⟨t, rfl⟩ := rv
  refine ⟨⟨by omega, by omega⟩, ?_⟩
  refine wpAny_bind (wpAny_pure ?_)
  dsimp only
  have hno : Builtin.List.listTooLong ((zs.length : Int)).toNat = false := by
    unfold Builtin.List.listTooLong
    simp only [Int.toNat_natCast]
    exact decide_eq_false (by rw [sizeLine_eq]; omega)
  rw [hno]
  exact wpAny_pure (h _ _ (I1.tok (s1.toks + 1)))

/-- list(o): a new list of what stands in the tuple in the field fl -/
def rListO (K : PySem.W.Frag) (C : Addr) (fl : Str) : RC := fun xs H Q => ∃ a dx fs t zs, xs = [.ref a] ∧ H a = some (.ins C dx fs) ∧ fs.lookup fl = some (.ref t) ∧ SqT K H t zs ∧ zs.length ≤ 100000 ∧ ∀ q, H q = none → Q (.ref q) (upd H q (.lst zs))
theorem call_listO {fl : Str} {k1 : Nat} (hcm : X.calm = true) (GI : IOK X.prog X.w X.K X.mg X.base CX0 k1 C fl) (GL : DOK X.prog X.w X.K X.mg X.base CX0 k C "__len__" ["self"] (spLen X.K C fl)) (hr : Room (k + 3) X.A) (hr1 : Room (k1 + 2) X.A) : CallR X (.type "list") (rListO X.K C fl) := by
  intro pins s σ H xs us Q I rv h
  obtain ⟨a, dx, fs, t, zs, rfl, ha, hl, hT, hz, hq⟩ := h
  obtain ⟨u, rfl, ru⟩ := rv.one
  cases ru
  refine callType_codes (Q₁ := fun obj s₁ => obj = .ref s.heap.objs.size ∧ s₁ = { s with heap := s.heap.push { cls := .type "list", data := .seq #[] } }) PySem.F.called_list (PySem.F.typeCall_list_1 _) PySem.F.entry_list_init
    (code_list_new _ ⟨rfl, rfl⟩) fun obj s₁ h₁ => ?_
  obtain ⟨rfl, rfl⟩ := h₁
  have hS : (s.heap.push { cls := .type "list", data := .seq #[] }).get? s.heap.objs.size = some { cls := .type "list", data := .seq #[] } := Heap.get?_push_size _ rfl
  refine ⟨⟨_, hS, rfl⟩, PySem.F.args_list_init_2 _ _, ?_⟩
  have fr : H s.heap.objs.size = none := I.hok.fresh (Nat.le_refl _)
  have I1 : Inv X pins σ (upd H s.heap.objs.size (.lst [])) { s with heap := s.heap.push { cls := .type "list", data := .seq #[] } } := I.lnew (its := []) (t' := s.toks) .nil (Nat.zero_le _)
  show wpAny _ _ (do let old ← Builtin.List.listItems (.ref s.heap.objs.size); Builtin.List.listUpdate (.ref s.heap.objs.size) (fun _ => #[]); letGo old.toList.reverse; Builtin.List.listExtendWith (.ref s.heap.objs.size) (.ref a) .none) _ _ _
  refine wpAny_bind ?_
  unfold Builtin.List.listItems
  refine wpAny_bind (wpAny_seqItems hS rfl (wpAny_pure ?_))
  show wpAny _ _ (updateSeq s.heap.objs.size (fun _ => #[]) >>= fun _ => letGo (#[] : Array Value).toList.reverse >>= fun _ => Builtin.List.listExtendWith (.ref s.heap.objs.size) (.ref a) .none) _ _ _
  refine wpAny_bind (wpAny_updateSeq hS rfl ?_)
  have I2 := I1.lset (f := fun _ => #[]) (its := []) (its' := []) (ys := []) (t' := s.toks) upd_same hS rfl .nil (Nat.zero_le _)
  rw [upd_upd] at I2
  refine wpAny_bind (wpAny_letGo ?_)
  have fin := hq _ fr
  generalize s.heap.objs.size = q at *
  have hne : q ≠ a := fun z => by rw [← z, fr] at ha; cases ha
  have ha2 : upd H q (.lst []) a = some (.ins C dx fs) := by rw [upd_ne (fun z => hne z.symm)]; exact ha
  have hT2 : SqT X.K (upd H q (.lst [])) t zs := Same.tup (same_upd fr) hT
  generalize (Shared.mk _ _ _ _ _) = s2 at I2
  obtain ⟨mA, J, _⟩ := ins_get I2.hok ha2
  obtain ⟨od, J, _⟩ := J.look
  obtain ⟨m0, hF⟩ := I2.fr
  unfold Builtin.List.listExtendWith
  refine wpAny_bind (J.type.here ?_)
  have h1 : Builtin.List.listSameRef (.ref q) (.ref a) = false := by simp [Builtin.List.listSameRef, hne]
  have h2 : (Value.ref C == Value.type "list") = false := rfl
  have h3 : (Value.ref C == Value.type "tuple") = false := rfl
  simp only [h1, h2, h3, Bool.or_false, Bool.false_eq_true, if_false]
  obtain ⟨f, fd, hm, F, hb⟩ := GI
  refine wpAny_bind (PySem.W.owit_iter hF I2.ok.mod.kin J hm.at_ hm.fn ?_)
  have e0 : Env0 X.prog X.w X.K X.mg X.base X.A.in1.in1 X.stack s2 (upd H q (.lst [])) := by
    have e := I2.env0
    exact ⟨e.frames, e.mod, e.bs, e.bsz, e.funs, e.frf, e.hok, e.bare⟩
  have r2 : Vals [V.ref a] [Value.ref a] := .cons rfl .nil
  have b1 := hb s2 [.ref a] I2.kIn rfl
  have asked : spIt X.K C fl s2.heap.objs.size [.ref a] (upd H q (.lst [])) (fun v H' => ∃ it, v = .ref it ∧ upd H q (.lst []) it = none ∧ s2.heap.objs.size ≤ it ∧ H' = upd (upd H q (.lst [])) it (TiO it t)) (fun _ _ _ => False) :=
    ⟨.ref a, rfl, a, dx, fs, t, zs, rfl, ha2, hl, hT2, fun it n1 n2 => ⟨it, rfl, n1, n2, rfl⟩⟩
  refine wpAny_call (codeAny_mono (F.runs X.A.in1.in1 X.stack s2 _ ⟨[.ref a], []⟩ [.ref a] [.ref a] _ (fun _ _ _ => False) hr1.in1.in1 e0 (by simpa using b1) r2 asked) fun res t2 h2' => ?_)
  cases res with
  | error z => exact h2'.elim
  | ok fl' =>
    cases fl' with
    | next => exact h2'.elim
    | brk => exact h2'.elim
    | cont => exact h2'.elim
    | ret u =>
      obtain ⟨v, H2, I3, rv, it, rfl, n1, n2, rfl⟩ := I2.after h2'
      cases rv
      have ho := (I3.hok it _ upd_same).1
      have hTy : t2.TypeIs (.ref it) "tuple_iterator" := ⟨_, ho, rfl⟩
      have fp : FpOk X pins (upd H q (.lst [])) it := I2.fpOk n2 n1
      have hiq : it ≠ q := fun z => by rw [z, upd_same] at n1; cases n1
      have fp' : FpOk X pins H it := ⟨by rw [← n1, upd_ne hiq], fp.2⟩
      have ha3 : upd (upd H q (.lst [])) it (TiO it t) a = some (.ins C dx fs) := same_upd n1 _ _ ha2
      have hT3 : SqT X.K (upd (upd H q (.lst [])) it (TiO it t)) t zs := Same.tup (same_upd n1) hT2
      unfold PySem.W.OwitIt
      refine wpAny_specialOf hTy PySem.F.slot_tuple_iterator_next.lookup ?_
      refine wpAny_bind (wpAny_holding (hint_own GL hr.in1.in1.in1 rfl I3 ha3 hl hT3 hz (fun s5 b I5 => ?_)))
      have ho5 := (I5.hok it _ upd_same).1
      have I4 : Inv X pins σ (upd H q (.lst [])) s5 := by
        have := ItX.inv_drop I5 (a := it) upd_same
        rw [ItX.dropH_upd n1] at this
        exact this
      have st : s5.heap.IsTupleIter it t 0 := ⟨_, ho5, rfl, rfl⟩
      have go : ∀ s, Inv X pins σ (upd H q (.lst [])) s → s.heap.IsTupleIter it t 0 → codeAny (model X.prog X.w) X.A.in1 (.builtin "list.extend.loop" ⟨[.ref q, .ref it, .none], []⟩) (wants (fun r s₂ => r = .none ∧ EP X pins σ Q (.ref q) s₂) X.xe) s := fun s Is ss =>
        own_loopT (A1 := X.A.in1) (t := t) (zs := zs) (show X.A.in1.in1.handled = none from I4.ok.hd hcm) hz fr hT hiq (fun s' I' => ⟨rfl, .ref q, _, I', rfl, fin⟩) zs.length 0 (by omega) s Is ss fp'
      refine wpAny_ite_split (fun _ => ?_) (fun _ => wpAny_pure ⟨plainId_quiet PySem.F.plain_extend_loop _, go s5 I4 st⟩)
      refine wpAny_bind (wpAny_rule ?_)
      refine wpAny_bind ?_
      show wpAny _ _ (updateSeq q (·.push .none) >>= fun _ => updateSeq q (·.pop)) _ _ _
      obtain ⟨z, its, k', r3, hl3, e3⟩ := I4.lstM upd_same
      cases r3
      refine wpAny_bind (wpAny_updateSeq e3 rfl ?_)
      have I6 := I4.lset (f := (·.push Value.none)) (its' := [Value.none]) (ys := [.non]) (t' := s5.toks) upd_same e3 (by simp) (.cons rfl .nil) (by rw [List.length_singleton, sizeLine_eq]; decide)
      obtain ⟨z4, its4, k4, r4, hl4, e4⟩ := I6.lstM upd_same
      obtain ⟨u4, rfl, ru4⟩ := r4.one
      refine wpAny_updateSeq e4 rfl ?_ (by show 1 ≤ sizeLine; rw [sizeLine_eq]; decide) (by show 0 ≤ sizeLine + 1; exact Nat.zero_le _)
      refine wpAny_pure ⟨plainId_quiet PySem.F.plain_extend_loop _, go _ ?_ ?_⟩
      · have I7 := I6.lset (f := (·.pop)) (its := [u4]) (its' := []) (ys := []) (t' := s5.toks) upd_same e4 (by rfl) .nil (Nat.zero_le _)
        rw [upd_upd, upd_upd] at I7
        exact I7
      · obtain ⟨o, eo, c, d⟩ := st
        exact ⟨o, (Heap.get?_update_other _ _ (fun z => hiq z.symm)).trans ((Heap.get?_update_other _ _ (fun z => hiq z.symm)).trans eo), c, d⟩
theorem cListO (K : PySem.W.Frag) {fl : Str} {k1 : Nat} (GI : IOK X.prog X.w X.K X.mg X.base CX0 k1 C fl) (GL : DOK X.prog X.w X.K X.mg X.base CX0 k C "__len__" ["self"] (spLen X.K C fl)) (hr : Room (k + 3) X.A) (hr1 : Room (k1 + 2) X.A) (hcm : X.calm = true := by rfl) (h : X.K = K := by rfl) : CallR X (.type "list") (rListO K C fl) := h ▸ call_listO hcm GI GL hr hr1
/-! ### o == any other thing -/
theorem nf_of_kit {K : PySem.W.Frag} {T : String} {C : Addr} (e : PySem.W.kitOne K (.type T) (.ref C) = some false) : PySem.W.notFirst K C (.type T) = true := by
  unfold PySem.W.kitOne at e
  rw [if_neg (by simp)] at e
  have e' : (if ((PySem.W.clsIn K C).isSome && PySem.W.typeIn K (.ref C) == some (.type "type")) = true then PySem.W.subIn K (.type T) (.ref C) else none) = some false := e
  split at e'
  · unfold PySem.W.notFirst
    rw [e']
    simp
  · cases e'
def rEqOX (K : PySem.W.Frag) (C : Addr) (sp : Sp) (E : XK) : R2 := fun x y H Q => ∃ a dx fs, x = .ref a ∧ H a = some (.ins C dx fs) ∧ ((∃ b dy gs, y = .ref b ∧ H b = some (.ins C dy gs)) ∨ ∃ T, TyX K H y (.type T) ∧ PySem.W.kitOne K (.type T) (.ref C) = some false) ∧
  sp [x, y] H (fun v H' => ∃ b, v = .bl b ∧ Q v H') E
theorem op_eqOX (G : DOK X.prog X.w X.K X.mg X.base CX k C "__eq__" ps sp) (hr : Room k X.A) (hx : Passes CX X E) : OpR X (compareOp .Eq) (rEqOX X.K C sp E) := by
  intro pins s σ H x y v u Q I rx ry h
  obtain ⟨a, dx, fs, rfl, ha, hy, q⟩ := h
  obtain ⟨f, fd, hm, _, F, hb⟩ := G
  cases rx
  obtain ⟨mA, J, _⟩ := ins_get I.hok ha
  obtain ⟨od, J, _⟩ := J.look
  obtain ⟨m, hF⟩ := I.fr
  have back : wpAny (model X.prog X.w) X.A (call (.ref f) [.ref a, u]) (PySem.W.CmpBack (EP X pins σ Q)) X.xe s :=
    wpAny_mono (run_in F hr rfl hb hx I (show Vals [V.ref a, y] [Value.ref a, u] from .cons rfl (.cons ry .nil)) q) (fun w' s1 hq => by
      obtain ⟨b, rfl, e⟩ := cmpBack (A1 := X.A) hq
      exact e) fun _ _ z => z
  rcases hy with ⟨b, dy, gs, rfl, hy⟩ | ⟨T, ty, kt⟩
  · cases ry
    obtain ⟨mB, J', _⟩ := ins_get I.hok hy
    obtain ⟨od', J', _⟩ := J'.look
    exact PySem.W.cmp_K (op := .Eq) (tb := .ref C) hr.units0 hF I.ok.mod.kin J J'.type (by simp [PySem.W.notFirst]) hm.at_ hm.fn back
  · obtain ⟨P, Z, hp, _⟩ := kit_of I ry ty
    exact PySem.W.cmp_K (op := .Eq) (tb := .type T) hr.units0 hF I.ok.mod.kin J (Z.ty _ _ I.kIn hp) (nf_of_kit kt) hm.at_ hm.fn back
theorem opEqOX (K : PySem.W.Frag) (G : DOK X.prog X.w X.K X.mg X.base CX k C "__eq__" ps sp) (hr : Room k X.A) (hx : Passes CX X E) (h : X.K = K := by rfl) : OpR X (compareOp .Eq) (rEqOX K C sp E) := h ▸ op_eqOX G hr hx
end
section
variable {K : PySem.W.Frag} {σ : L2.St} {H : Hp} {Q : VK} {E : XK} {C a b dx dy t : Addr} {fs gs : List (Str × V)} {te tf : TE} {ta : TA} {sp : Sp} {y : V} {zs : List V} {fl : Str} {d : PyData}
theorem i_eqOO (h : H a = some (.ins C dx fs)) (h' : H b = some (.ins C dy gs)) (q : sp [.ref a, .ref b] H (fun v H' => ∃ b, v = .bl b ∧ Q v H') E) : rEqOX K C sp E (.ref a) (.ref b) H Q := ⟨a, dx, fs, rfl, h, .inl ⟨b, dy, gs, rfl, h'⟩, q⟩
theorem i_eqOD (h : H a = some (.ins C dx fs)) (h' : At H y d) (e : PySem.W.kitOne K (.type (kindD d)) (.ref C) = some false) (q : sp [.ref a, y] H (fun v H' => ∃ b, v = .bl b ∧ Q v H') E) : rEqOX K C sp E (.ref a) y H Q := ⟨a, dx, fs, rfl, h, .inr ⟨_, h'.ty K, e⟩, q⟩
theorem i_callOwn (q : tf σ H fun y H1 => ∃ a, y = V.ref a ∧ ta σ H1 fun vs H2 => (∃ dx fs, H2 a = some (.ins C dx fs)) ∧ sp (V.ref a :: vs) H2 Q E) : tCallOwn C sp E tf ta σ H Q := q
theorem i_propO (q : te σ H fun x H1 => ∃ a dx fs, x = .ref a ∧ H1 a = some (.ins C dx fs) ∧ sp [.ref a] H1 Q (fun _ _ _ => False)) : tPropO C sp te σ H Q := q
theorem i_listO (h : H a = some (.ins C dx fs)) (l : fs.lookup fl = some (.ref t)) (hT : SqT K H t zs) (hz : zs.length ≤ 100000) (q : ∀ q, H q = none → Q (.ref q) (upd H q (.lst zs))) : rListO K C fl [.ref a] H Q := ⟨a, dx, fs, t, zs, rfl, h, l, hT, hz, q⟩
end
/-! ### o(e, ..) within a try -/
section
variable {X : Cx} {CX : CXT} {k : Nat} {C : Addr} {ps : List Str} {sp : Sp} {ES : L2.St → XK}
def tCallOwnS (C : Addr) (sp : Sp) (ES : L2.St → XK) (tf : TE) (t : TA) : TE := fun σ H Q => tf σ H fun y H1 => ∃ a, y = V.ref a ∧ t σ H1 fun vs H2 => (∃ dx fs, H2 a = some (.ins C dx fs)) ∧ sp (V.ref a :: vs) H2 Q (ES σ)
theorem pe_callOwnS {fe e : Expr} {es : List Expr} {pos : PySem.Pos} {tf : TE} {t : TA} (hf : PE X fe tf) (G : DOK X.prog X.w X.K X.mg X.base CX k C "__call__" ps sp) (hr : Room k X.A) (hx : ∀ σ, PassesAt CX X σ (ES σ)) (ha : PA X (e :: es) t)
    (ht : eval (.Call fe (e :: es) [] pos) X.env = (do callWith pos (← eval fe X.env) [] (backTo pos (starEach (e :: es) X.env)) (backToKw pos (keywordEach [] X.env))) := by rfl)
    (he : starEach (e :: es) X.env = (false, eval e X.env) :: starEach es X.env := by rfl) (hpl : (backTo pos (starEach es X.env)).any (·.1) = false := by rfl) : PE X (.Call fe (e :: es) [] pos) (tCallOwnS C sp ES tf t) := by
  refine ⟨fun pins s σ H Q I h => ?_⟩
  obtain ⟨f, fd, hm, hfi, F, hb⟩ := G
  refine Call_ (thn (hf.run pins s σ H _ I h) fun u s1 ⟨y, H1, I1, ry, a, ey, q⟩ => ?_) ht
  subst ey
  obtain rfl : u = Value.ref a := ry
  refine StX.callO_with (thn (ha.run pos pins s1 σ H1 _ I1 q) fun us s2 ⟨vs, H2, I2, r, hi, q2⟩ => ?_) he hpl
  obtain ⟨dx, fs, hi⟩ := hi
  obtain ⟨mA, J, _⟩ := ins_get I2.hok hi
  obtain ⟨od, J, _⟩ := J.look
  refine ⟨⟨C, _, _, J, rfl⟩, wpAny_call (PySem.W.kco_code I2.kIn J rfl hm.at_ hm.fn hfi ?_)⟩
  have hl := F.len _ _ _ _ q2
  have r2 : Vals (V.ref a :: vs) (Value.ref a :: us) := .cons rfl r
  have b1 := hb s2 (Value.ref a :: us) I2.kIn (by rw [List.append_nil, ← r2.length]; exact hl)
  rw [List.append_nil] at b1
  refine codeAny_mono (F.run X.A X.stack s2 H2 ⟨Value.ref a :: us, []⟩ _ _ Q (ES σ) hr I2.env0 b1 r2 q2) fun res t2 h2 => ?_
  cases res with
  | error z => exact hx σ pins H2 s2 z t2 I2 h2
  | ok fl =>
    cases fl with
    | next => exact h2.elim
    | brk => exact h2.elim
    | cont => exact h2.elim
    | ret u => exact I2.after h2
theorem i_callOwnS {σ : L2.St} {H : Hp} {Q : VK} {tf : TE} {ta : TA} (q : tf σ H fun y H1 => ∃ a, y = V.ref a ∧ ta σ H1 fun vs H2 => (∃ dx fs, H2 a = some (.ins C dx fs)) ∧ sp (V.ref a :: vs) H2 Q (ES σ)) : tCallOwnS C sp ES tf ta σ H Q := q
end
end Fg
/-! [te for j in a text if tt] -/
namespace Fg
open PySem PySem.Spec PyProof.Rows L2
section
variable {K : PySem.W.Frag} {σ : L2.St} {H : Hp} {Q : VK} {te tl : TE} {tt : TT} {j : Nat} {z : List Nat} {vs : List Nat}
theorem c_str (ha : ∀ R : VK, R (S z) H → tl σ H R) (hn : z.length ≤ 100000) (f : Nat → Bool) (v : Nat → V) (hw : ∀ x, wipe ((wipe σ vs).set j (some x)) vs = wipe σ vs)
    (ht : ∀ i c H2, z[i]? = some c → Same H H2 → ∀ QB : Bool → Hp → Prop, (∀ H3, Same H2 H3 → QB (f i) H3) → tt ((wipe σ vs).set j (some (S [c]))) H2 QB)
    (he : ∀ i c H2, z[i]? = some c → Same H H2 → f i = true → ∀ QV : VK, (∀ H3, Same H2 H3 → QV (v i) H3) → te ((wipe σ vs).set j (some (S [c]))) H2 QV)
    (q : ∀ Dl H2, H Dl = none → Same H H2 → H2 Dl = some (.lst (kept f v z.length)) → Q (.ref Dl) H2) : tLc (iAny K tl) (gName j) tt te vs σ H Q := by
  have e : (⟨z.toArray⟩ : Str).cps.size = z.length := str_len z
  refine ha _ (.inr (.inr ⟨_, rfl, fun Dl nD => ?_⟩))
  refine lc_it walk_str (Lw H Dl (kept f v)) ⟨nD, same_upd nD, upd_same⟩ (fun _ _ _ _ => True.intro) (fun i x H' H2 hi p y => ?_) (fun H' p => q Dl H' p.1 p.2.1 (by rw [e] at p; exact p.2.2))
  obtain ⟨rfl, c, hc, rfl⟩ := y
  have hc' : z[i]? = some c := by simpa using hc
  have hlt := (List.getElem?_eq_some_iff.mp hc').1
  exact ⟨hw _, lw_turn p (by omega) (fun H2 s2 => ht i c H2 hc' s2) (fun H2 s2 => he i c H2 hc' s2)⟩
/-- the signs that are kept -/
theorem c_strF (P : Nat → Bool) (ha : ∀ R : VK, R (S z) H → tl σ H R) (hn : z.length ≤ 100000) (hw : ∀ x, wipe ((wipe σ vs).set j (some x)) vs = wipe σ vs)
    (ht : ∀ c H2, c ∈ z → Same H H2 → ∀ QB : Bool → Hp → Prop, (∀ H3, Same H2 H3 → QB (P c) H3) → tt ((wipe σ vs).set j (some (S [c]))) H2 QB)
    (he : ∀ c H2, c ∈ z → Same H H2 → ∀ QV : VK, (∀ H3, Same H2 H3 → QV (S [c]) H3) → te ((wipe σ vs).set j (some (S [c]))) H2 QV)
    (q : ∀ Dl H2, H Dl = none → Same H H2 → H2 Dl = some (.lst ((z.filter P).map fun c => S [c])) → Q (.ref Dl) H2) : tLc (iAny K tl) (gName j) tt te vs σ H Q := by
  have key : ∀ n, n ≤ z.length → kept (fun i => P (z.getD i 0)) (fun i => S [z.getD i 0]) n = ((z.take n).filter P).map fun c => S [c] := fun n => by
    induction n with
    | zero => intro _; rfl
    | succ n ih =>
      intro hn
      have hg : z[n]? = some (z.getD n 0) := by rw [List.getD_eq_getElem?_getD, List.getElem?_eq_getElem (by omega)]; rfl
      have tk : z.take (n + 1) = z.take n ++ [z.getD n 0] := by rw [List.take_succ, hg]; rfl
      rw [tk, List.filter_append, List.map_append, ← ih (by omega)]
      cases hp : P (z.getD n 0) with
      | true => rw [kept_yes (f := fun i => P (z.getD i 0)) hp, List.filter_cons_of_pos hp]; rfl
      | false => rw [kept_no (f := fun i => P (z.getD i 0)) hp, List.filter_cons_of_neg (by rw [hp]; decide)]; simp
  have gd : ∀ {i c}, z[i]? = some c → z.getD i 0 = c := fun h => by rw [List.getD_eq_getElem?_getD, h]; rfl
  refine c_str ha hn (fun i => P (z.getD i 0)) (fun i => S [z.getD i 0]) hw (fun i c H2 hc s QB k => ht c H2 (List.mem_of_getElem? hc) s QB (by rw [gd hc] at k; exact k))
    (fun i c H2 hc s _ QV k => he c H2 (List.mem_of_getElem? hc) s QV (by rw [gd hc] at k; exact k)) fun Dl H2 n s e => q Dl H2 n s ?_
  rw [key _ (Nat.le_refl _), List.take_length] at e
  exact e
end
end Fg
/-! Dicts by what they answer: keys that are texts, keys that are pairs of numbers. -/
namespace Fg
open PySem PySem.Spec PyProof.Rows L2
abbrev kS (l : List Nat) : Key := .inr ⟨l.toArray⟩
theorem kS_inj {l m : List Nat} : kS l = kS m ↔ l = m := by
  constructor
  · intro h
    exact List.toArray_inj (congrArg PySem.Str.cps (Sum.inr.inj h))
  · rintro rfl; rfl
theorem kV_S (l : List Nat) : kV (kS l) = S l := rfl
theorem putK_len {κ : Type} [DecidableEq κ] (kvs : List (κ × V)) (k : κ) (v : V) : (putK kvs k v).length ≤ kvs.length + 1 := by
  unfold putK
  split
  · rw [List.length_map]; omega
  · rw [List.length_append, List.length_singleton]; exact Nat.le_refl _
/-- at a a dict of at most n entries, which answers g -/
def TD (n : Nat) (H : Hp) (a : Addr) (g : List Nat → Option V) : Prop := ∃ kvs : List (Key × V), H a = some (.dK kvs) ∧ kvs.length ≤ n ∧ ∀ l, valV kvs (kS l) = g l
def PD (n : Nat) (H : Hp) (a : Addr) (g : Int → Int → Option V) : Prop := ∃ kvs : List (List Key × V), H a = some (.dT kvs) ∧ kvs.length ≤ n ∧ ∀ i j, valV kvs [.inl i, .inl j] = g i j
def setT (g : List Nat → Option V) (k : List Nat) (v : V) : List Nat → Option V := fun l => if l = k then some v else g l
def setP (g : Int → Int → Option V) (i j : Int) (v : V) : Int → Int → Option V := fun a b => if a = i ∧ b = j then some v else g a b
section
variable {n : Nat} {H H' : Hp} {a b : Addr} {g : List Nat → Option V} {f : Int → Int → Option V} {l : List Nat} {v : V} {Q : VK} {i j : Int}
theorem TD.at (h : TD n H a g) (e : H' a = H a) : TD n H' a g := by
  obtain ⟨kvs, h1, h2⟩ := h
  exact ⟨kvs, e.trans h1, h2⟩
theorem PD.at (h : PD n H a f) (e : H' a = H a) : PD n H' a f := by
  obtain ⟨kvs, h1, h2⟩ := h
  exact ⟨kvs, e.trans h1, h2⟩
theorem TD.mono (h : TD n H a g) (s : Same H H') : TD n H' a g := by
  obtain ⟨kvs, h1, h2⟩ := h
  exact ⟨kvs, s _ _ h1, h2⟩
theorem PD.mono (h : PD n H a f) (s : Same H H') : PD n H' a f := by
  obtain ⟨kvs, h1, h2⟩ := h
  exact ⟨kvs, s _ _ h1, h2⟩
theorem TD.some (h : TD n H a g) : ∃ o, H a = some o := by
  obtain ⟨kvs, h1, h2⟩ := h
  exact ⟨_, h1⟩
theorem PD.some (h : PD n H a f) : ∃ o, H a = some o := by
  obtain ⟨kvs, h1, h2⟩ := h
  exact ⟨_, h1⟩
theorem TD.new : TD 0 (upd H a (.dK [])) a (fun _ => none) := ⟨[], upd_same, Nat.le_refl _, fun _ => rfl⟩
theorem PD.new : PD 0 (upd H a (.dT [])) a (fun _ _ => none) := ⟨[], upd_same, Nat.le_refl _, fun _ _ => rfl⟩
theorem td_get {P : V → Prop} (h : TD n H a g) (e : g l = some v) (q : P v) : ∃ a' v', V.ref a = .ref a' ∧ DGet H a' (S l) (some v') ∧ P v' := by
  obtain ⟨kvs, h1, h2, h3⟩ := h
  refine ⟨a, v, rfl, ?_, q⟩
  have := DGet.k (k := kS l) h1
  rw [h3, e] at this
  exact this
theorem td_ask {P : Option V → Prop} (h : TD n H a g) (q : P (g l)) : ∃ a' o, V.ref a = .ref a' ∧ DGet H a' (S l) o ∧ P o := by
  obtain ⟨kvs, h1, h2, h3⟩ := h
  refine ⟨a, g l, rfl, ?_, q⟩
  have := DGet.k (k := kS l) h1
  rw [h3] at this
  exact this
theorem td_put {P : Hp → Prop} (h : TD n H a g) (hn : n ≤ 100000) (q : ∀ o, TD (n + 1) (upd H a o) a (setT g l v) → P (upd H a o)) : ∃ a' H4, V.ref a = .ref a' ∧ DPut H a' (S l) v H4 ∧ P H4 := by
  obtain ⟨kvs, h1, h2, h3⟩ := h
  refine ⟨a, _, rfl, DPut.k (k := kS l) h1 (by rw [sizeLine_eq]; omega), q _ ⟨_, upd_same, Nat.le_trans (putK_len _ _ _) (by omega), fun m => ?_⟩⟩
  rw [valV_put, h3]
  unfold setT
  by_cases e : m = l
  · rw [if_pos e, if_pos (by rw [e])]
  · rw [if_neg e, if_neg (fun z => e (kS_inj.mp z))]
theorem pd_get (h : PD n H a f) (hb : H b = some (.tup [.int i, .int j])) {P : V → Prop} (e : f i j = some v) (q : P v) : ∃ a' v', V.ref a = .ref a' ∧ DGet H a' (.ref b) (some v') ∧ P v' := by
  obtain ⟨kvs, h1, h2, h3⟩ := h
  refine ⟨a, v, rfl, ?_, q⟩
  have := DGet.t (k := [.inl i, .inl j]) h1 hb
  rw [h3, e] at this
  exact this
theorem pd_put {P : Hp → Prop} (h : PD n H a f) (hb : H b = some (.tup [.int i, .int j])) (hn : n ≤ 100000) (q : ∀ o, PD (n + 1) (upd H a o) a (setP f i j v) → P (upd H a o)) : ∃ a' H4, V.ref a = .ref a' ∧ DPut H a' (.ref b) v H4 ∧ P H4 := by
  obtain ⟨kvs, h1, h2, h3⟩ := h
  refine ⟨a, _, rfl, DPut.t (k := [.inl i, .inl j]) h1 hb (by rw [sizeLine_eq]; omega), q _ ⟨_, upd_same, Nat.le_trans (putK_len _ _ _) (by omega), fun x y => ?_⟩⟩
  rw [valV_put, h3]
  unfold setP
  by_cases e : x = i ∧ y = j
  · rw [if_pos (by rw [e.1, e.2]), if_pos e]
  · rw [if_neg (fun z => e (by injection z with z1 z2; injection z2 with z2 z3; exact ⟨Sum.inl.inj z1, Sum.inl.inj z2⟩)), if_neg e]
end
section
variable {σ : L2.St} {H : Hp} {Q : VK} {td ty tv : TE} {D : Ends}
theorem i_dget (q : td σ H fun x H1 => ty σ H1 fun y H2 => ∃ a v, x = .ref a ∧ DGet H2 a y (some v) ∧ Q v H2) : tDGet td ty σ H Q := q
theorem i_din (q : ty σ H fun y H1 => td σ H1 fun x H2 => ∃ a o, x = .ref a ∧ DGet H2 a y o ∧ Q (.bl o.isSome) H2) : tDIn ty td σ H Q := q
theorem i_dnotin (q : ty σ H fun y H1 => td σ H1 fun x H2 => ∃ a o, x = .ref a ∧ DGet H2 a y o ∧ Q (.bl (!o.isSome)) H2) : tDNotIn ty td σ H Q := q
theorem i_dput (q : tv σ H fun v H1 => td σ H1 fun x H2 => ty σ H2 fun y H3 => ∃ a H4, x = .ref a ∧ DPut H3 a y v H4 ∧ D.nx σ H4) : sDPut td ty tv D σ H := q
theorem i_dnewK (q : ∀ p, H p = none → Q (.ref p) (upd H p (.dK []))) : tDNewK σ H Q := q
theorem i_dnewT (q : ∀ p, H p = none → Q (.ref p) (upd H p (.dT []))) : tDNewT σ H Q := q
/-- {l: v}, texts -/
theorem i_disp1 {l : List Nat} {v : V} {tk tv : TE} (hk : ∀ H (R : VK), R (S l) H → tk σ H R) (hv : ∀ H (R : VK), R v H → tv σ H R) (q : ∀ p o, H p = none → TD 1 (upd H p o) p (setT (fun _ => none) l v) → Q (.ref p) (upd H p o)) : tDisp [(tk, tv)] σ H Q := by
  intro p np
  refine hk _ _ (hv _ _ ⟨upd_same, [(kS l, v)], rfl, (by decide : 1 ≤ 15), ?_⟩)
  rw [upd_upd]
  refine q p _ np ⟨_, upd_same, Nat.le_refl 1, fun m => ?_⟩
  show valV (putK [] (kS l) v) (kS m) = _
  rw [valV_put]
  unfold setT
  by_cases e : m = l
  · rw [if_pos e, if_pos (by rw [e])]
  · rw [if_neg e, if_neg (fun z => e (kS_inj.mp z))]
    rfl
end
/-! a value as a test, the written part named -/
def tTru (K : PySem.W.Frag) (te : TE) : TT := fun σ H Q => te σ H fun x H' => ∃ k, TruV K x H' k ∧ Q k H'
section
variable {K : PySem.W.Frag} {σ : L2.St} {H : Hp} {te : TE} {a : Addr} {xs : List V} {l : List Nat} {P : Bool → Prop} {Q : Bool → Hp → Prop}
theorem i_tru (q : te σ H fun x H' => ∃ k, TruV K x H' k ∧ Q k H') : tTru K te σ H Q := q
theorem i_truL (h : H a = some (.lst xs)) (q : P (!xs.isEmpty)) : ∃ k, TruV K (.ref a) H k ∧ P k := ⟨_, .inl ⟨xs, .inl (.inl h), rfl⟩, q⟩
theorem i_truL0 (h : H a = some (.lst [])) (q : P false) : ∃ k, TruV K (.ref a) H k ∧ P k := ⟨_, .inl ⟨[], .inl (.inl h), rfl⟩, q⟩
theorem i_truL1 (h : H a = some (.lst xs)) (hne : xs ≠ []) (q : P true) : ∃ k, TruV K (.ref a) H k ∧ P k := ⟨_, .inl ⟨xs, .inl (.inl h), by cases xs with
  | nil => exact absurd rfl hne
  | cons _ _ => rfl⟩, q⟩
theorem i_truT (h : H a = some (.tup xs)) (q : P (!xs.isEmpty)) : ∃ k, TruV K (.ref a) H k ∧ P k := ⟨_, .inr (.inl ⟨xs, .inl (.inl h), rfl⟩), q⟩
end
theorem ptTruth (K : PySem.W.Frag) {X : Cx} {e : Expr} {te : TE} (he : PE X e te) (h1 : ∀ whole, isTrue e X.env whole = (do let v ← whole; standAt e.pos; holding [v] (truthy v))) (h : X.K = K := by rfl) : PT X e (tTru K te) := h ▸ pt_truth he h1
end Fg
/-! {text: value, ..}, d.get(text). -/
namespace Fg
open PySem PySem.Spec PyProof.Rows L2
def lookT (ps : List (List Nat × V)) : List Nat → Option V := ps.foldl (fun g p => setT g p.1 p.2) fun _ => none
section
variable {σ : L2.St} {H : Hp} {Q : VK} {td ty : TE} {a : Addr} {n : Nat} {g : List Nat → Option V} {l : List Nat}
theorem pairs_const : ∀ (ps : List (List Nat × V)) (H : Hp) (R : List (V × V) → Hp → Prop), R (ps.map fun p => (S p.1, p.2)) H → tPairs (ps.map fun p => (tC (S p.1), tC p.2)) σ H R
  | [], _, _, h => h
  | p :: r, H, R, h => pairs_const r H _ h
theorem merge_look : ∀ (ps : List (List Nat × V)) (kvs : List (Key × V)) (g : List Nat → Option V), (∀ l, valV kvs (kS l) = g l) → ∀ l, valV (mergeK kvs (ps.map fun p => (kS p.1, p.2))) (kS l) = ps.foldl (fun g p => setT g p.1 p.2) g l
  | [], kvs, g, h, l => h l
  | p :: r, kvs, g, h, l => by
    refine merge_look r (putK kvs (kS p.1) p.2) (setT g p.1 p.2) (fun m => ?_) l
    rw [valV_put, h]
    unfold setT
    by_cases e : m = p.1
    · rw [if_pos e, if_pos (by rw [e])]
    · rw [if_neg e, if_neg (fun z => e (kS_inj.mp z))]
theorem i_dispT (ps : List (List Nat × V)) (h15 : ps.length ≤ 15) (q : ∀ p o, H p = none → TD 15 (upd H p o) p (lookT ps) → Q (.ref p) (upd H p o)) : tDisp (ps.map fun p => (tC (S p.1), tC p.2)) σ H Q := by
  intro p np
  refine pairs_const ps _ _ ⟨upd_same, ps.map fun p => (kS p.1, p.2), by rw [List.map_map]; rfl, by rw [List.length_map]; exact h15, ?_⟩
  rw [upd_upd]
  refine q p _ np ⟨_, upd_same, ?_, fun l => merge_look ps [] (fun _ => none) (fun _ => rfl) l⟩
  have := length_mergeK (ps.map fun p => (kS p.1, p.2)) []
  rw [List.length_map] at this
  exact Nat.le_trans this (by simpa using h15)
theorem i_dget1 (q : td σ H fun x H1 => ∃ a, x = .ref a ∧ IsD H1 a ∧ ty σ H1 fun y H2 => ∃ o, DGet H2 a y o ∧ Q (o.getD .non) H2) : tDGet1 td ty σ H Q := q
theorem td_isD (h : TD n H a g) : IsD H a := by
  obtain ⟨kvs, h1, _⟩ := h
  exact .inl ⟨kvs, .inl h1⟩
theorem td_get1 {P : Option V → Prop} (h : TD n H a g) (q : P (g l)) : ∃ o, DGet H a (S l) o ∧ P o := by
  obtain ⟨kvs, h1, h2, h3⟩ := h
  have := DGet.k (k := kS l) h1
  rw [h3] at this
  exact ⟨g l, this, q⟩
end
end Fg
/-! Dicts of text keys in the order of their entries. -/
namespace Fg
open PySem PySem.Spec PyProof.Rows L2
/-- list(d) -/
def rListK : RC := fun xs H Q => ∃ (a : Addr) (kvs : List (Key × V)), xs = [.ref a] ∧ Rd H a (.dK kvs) ∧ ∀ p, H p = none → Q (.ref p) (upd H p (.lst (kvs.map fun kv => kV kv.1)))
theorem cListK (K : PySem.W.Frag) {X : Cx} (hcalm : X.calm = true := by rfl) : CallR X (.type "list") rListK := call_listD hcalm
section
variable {σ : L2.St} {H : Hp} {Q : VK} {a : Addr} {kvs : List (Key × V)} {l : List Nat} {v : V}
theorem i_listK (h : H a = some (.dK kvs)) (q : ∀ p, H p = none → Q (.ref p) (upd H p (.lst (kvs.map fun kv => kV kv.1)))) : rListK [.ref a] H Q := ⟨a, kvs, rfl, .inl h, q⟩
theorem dk_ask {P : Option V → Prop} (h : H a = some (.dK kvs)) (q : P (valV kvs (kS l))) : ∃ a' o, V.ref a = .ref a' ∧ DGet H a' (S l) o ∧ P o := ⟨a, _, rfl, DGet.k (k := kS l) h, q⟩
theorem dk_get {P : V → Prop} (h : H a = some (.dK kvs)) (e : valV kvs (kS l) = some v) (q : P v) : ∃ a' v', V.ref a = .ref a' ∧ DGet H a' (S l) (some v') ∧ P v' := by
  refine ⟨a, v, rfl, ?_, q⟩
  have := DGet.k (k := kS l) h
  rw [e] at this
  exact this
theorem dk_put {P : Hp → Prop} (h : H a = some (.dK kvs)) (hn : kvs.length ≤ 100000) (q : P (upd H a (.dK (putK kvs (kS l) v)))) : ∃ a' H4, V.ref a = .ref a' ∧ DPut H a' (S l) v H4 ∧ P H4 := by
  refine ⟨a, _, rfl, DPut.k (k := kS l) h (by rw [sizeLine_eq]; omega), q⟩
theorem putK_new (h : valV kvs (kS l) = none) : putK kvs (kS l) v = kvs ++ [(kS l, v)] := by
  unfold putK
  rw [if_neg]
  intro z
  unfold valV at h
  rw [Option.map_eq_none_iff, List.find?_eq_none] at h
  rw [List.any_eq_true] at z
  obtain ⟨x, hx, e⟩ := z
  exact h x hx e
/-- {l: v} -/
theorem i_disp1K {tk tv : TE} (hk : ∀ H (R : VK), R (S l) H → tk σ H R) (hv : ∀ H (R : VK), R v H → tv σ H R) (q : ∀ p, H p = none → Q (.ref p) (upd H p (.dK [(kS l, v)]))) : tDisp [(tk, tv)] σ H Q := by
  intro p np
  refine hk _ _ (hv _ _ ⟨upd_same, [(kS l, v)], rfl, (by decide : 1 ≤ 15), ?_⟩)
  rw [upd_upd]
  exact q p np
end
/-- a table of signs and texts -/
def tblK (t : List (Nat × List Nat)) : List (Key × V) := t.map fun p => (kS [p.1], S p.2)
theorem tbl_val : ∀ (t : List (Nat × List Nat)) (c : Nat), valV (tblK t) (kS [c]) = (t.lookup c).map S
  | [], _ => rfl
  | (k, w) :: r, c => by
    have ih := tbl_val r c
    show (((kS [k], S w) :: tblK r).find? fun kv => decide (kv.1 = kS [c])).map (·.2) = _
    rw [List.lookup_cons, List.find?_cons]
    by_cases e : c = k
    · subst e
      simp
    · have e1 : (c == k) = false := by simpa using e
      have e2 : decide (kS [k] = kS [c]) = false := decide_eq_false fun z => e (by have := kS_inj.mp z; injection this with this; exact this.symm)
      rw [e1]
      simp only [e2]
      exact ih
end Fg
/-! A datum == a text. -/
namespace Fg
open PySem PySem.Spec PyProof.Rows L2
def eqS : PyData → List Nat → Bool
  | .str x, l => decide (x.cps.toList = l)
  | _, _ => false
theorem eqS_str (m l : List Nat) : eqS (dS m) l = decide (m = l) := rfl
theorem strOk_small {l : List Nat} (h : ∀ c ∈ l, c < 0x110000) : PyData.strOk ⟨l.toArray⟩ = true := by
  show (⟨l.toArray⟩ : Str).cps.all (· < 0x110000) = true
  rw [Array.all_eq_true_iff_forall_mem]
  intro c hc
  exact decide_eq_true (h c (by simpa using hc))
theorem small_strOk {l : List Nat} (h : PyData.strOk ⟨l.toArray⟩ = true) : ∀ c ∈ l, c < 0x110000 := by
  have h' : (⟨l.toArray⟩ : Str).cps.all (· < 0x110000) = true := h
  rw [Array.all_eq_true_iff_forall_mem] at h'
  intro c hc
  exact of_decide_eq_true (h' c (by simpa using hc))
theorem eqS_no {d : PyData} {l : List Nat} (h : eqS d l = false) : d ≠ dS l := fun z => by
  rw [z, eqS_str, decide_eq_true rfl] at h
  cases h
theorem eqS_yes {d : PyData} {l : List Nat} (h : eqS d l = true) : d = dS l := by
  cases d with
  | str x =>
    have : x.cps.toList = l := of_decide_eq_true h
    subst this
    rfl
  | _ => cases h
section
variable {K : PySem.W.Frag} {H : Hp} {Q : VK} {v : V} {d : PyData} {l : List Nat}
theorem i_eqDS (h : At H v d) (c : d.canLay0 = true) (dp : d.depth ≤ 64) (ls : ∀ c ∈ l, c < 0x110000) (q : Q (.bl (eqS d l)) H) : eqP K v (S l) H Q := by
  have sh : SeqAt.shaped d = true := by
    unfold SeqAt.shaped
    rw [c, decide_eq_true dp]; rfl
  have sl : SeqAt.shaped (dS l) = true := by
    unfold SeqAt.shaped
    rw [Bool.and_eq_true]
    exact ⟨strOk_small ls, rfl⟩
  cases d with
  | str x =>
    obtain ⟨m, rfl, rfl, _⟩ := h.strl
    exact i_eq_str q
  | none => exact i_eq_data (h.dp K _ _ rfl) (.str _) sh sl (r := false) rfl q
  | bool b => exact i_eq_data (h.dp K _ _ rfl) (.str _) sh sl (r := false) rfl q
  | int i => exact i_eq_data (h.dp K _ _ rfl) (.str _) sh sl (r := false) rfl q
  | list ds =>
    have nd : (PyData.list ds).hasDict = false := PyData.hasDict_of_canLay _ c
    exact i_eq_data (h.dp K _ _ nd) (.str _) sh sl (r := false) rfl q
  | tuple ds =>
    have nd : (PyData.tuple ds).hasDict = false := PyData.hasDict_of_canLay _ c
    exact i_eq_data (h.dp K _ _ nd) (.str _) sh sl (r := false) rfl q
  | dict kvs => cases c
end
end Fg
/-! x in [texts] -/
namespace Fg
open PySem PySem.Spec PyProof.Rows L2
theorem eqV_S (m l : List Nat) : eqV (S m) (S l) = decide (m = l) := by
  show ((⟨m.toArray⟩ : Str) == ⟨l.toArray⟩) = _
  rw [Bool.eq_iff_iff]
  simp
theorem inV_S (l : List Nat) : ∀ ms : List (List Nat), inV (S l) (ms.map S) = decide (l ∈ ms)
  | [] => by simp [inV]
  | m :: r => by
    have ih := inV_S l r
    unfold inV at ih ⊢
    rw [List.map_cons, List.any_cons, ih, eqV_S, Bool.eq_iff_iff, Bool.or_eq_true, decide_eq_true_eq, decide_eq_true_eq, decide_eq_true_eq, List.mem_cons]
    exact ⟨fun h => h.imp_left Eq.symm, fun h => h.imp_left Eq.symm⟩
theorem flat_S : ∀ ms : List (List Nat), (ms.map S).all flatV = true
  | [] => rfl
  | m :: r => by rw [List.map_cons, List.all_cons, flat_S r]; rfl
section
variable {K : PySem.W.Frag} {H : Hp} {Q : VK} {p : Addr} {ms : List (List Nat)} {l : List Nat} {v : V}
theorem i_inS (h : H p = some (.lst (ms.map S))) (q : Q (.bl (decide (l ∈ ms))) H) : inP K (S l) (.ref p) H Q :=
  .inr ⟨p, _, rfl, .inl (.inl (.inl h)), rfl, flat_S ms, by rw [if_neg (by decide), inV_S]; exact q⟩
theorem i_ninS (h : H p = some (.lst (ms.map S))) (q : Q (.bl (!decide (l ∈ ms))) H) : notInP K (S l) (.ref p) H Q :=
  .inr ⟨p, _, rfl, .inl (.inl (.inl h)), rfl, flat_S ms, by rw [if_pos rfl, inV_S]; exact q⟩
end
end Fg
/-! [te for j in o], o an instance whose __iter__ walks a tuple. -/
namespace Fg
open PySem PySem.Spec PyProof.Rows L2
section
variable {K : PySem.W.Frag} {σ : L2.St} {A G : Hp} {Q : VK} {te tl : TE} {j : Nat} {p dx t C : Addr} {fs : List (Str × V)} {fl : Str} {xs : List V} {vs : List Nat}
theorem c_ownD {ds : List PyData} (sa : Same A G) (ha : ∀ R : VK, R (.ref p) G → tl σ G R) (hp : G p = some (.ins C dx fs)) (hl : fs.lookup fl = some (.ref t)) (hx : SqT K G t xs) (hd : AtAll A xs ds) (hn : xs.length ≤ 10000) (f : PyData → PyData) (hw : ∀ x, wipe ((wipe σ vs).set j (some x)) vs = wipe σ vs)
    (he : ∀ x d A1 G1, d ∈ ds → At A1 x d → Ext A G A1 G1 → ∀ QV : VK, (∀ A2 G2 v, Ext A1 G1 A2 G2 → At A2 v (f d) → QV v G2) → te ((wipe σ vs).set j (some x)) G1 QV)
    (q : ∀ Dl A1 G1 l, Ext A G A1 G1 → G1 Dl = some (.lst l) → A1 Dl = some (.lst l) → AtAll A1 l (ds.map f) → l.length = ds.length → Q (.ref Dl) G1) : tLc (iOwn K C fl tl) (gName j) tYes te vs σ G Q := by
  have hl' := hd.len
  have e1 : (List.range ds.length).map (fun i => f (ds.getD i .none)) = ds.map f := by
    refine List.ext_getElem? fun i => ?_
    rw [List.getElem?_map, List.getElem?_map]
    by_cases h : i < ds.length
    · rw [List.getElem?_range h, Option.map_some, List.getD_eq_getElem?_getD, List.getElem?_eq_getElem h]
      rfl
    · rw [List.getElem?_eq_none (by simpa using h), List.getElem?_eq_none (by omega)]
      rfl
  refine ha _ ⟨p, dx, fs, t, xs, rfl, hp, hl, hx, fun Dl nD => ?_⟩
  refine lc_tup (xs := xs) (Cw A G Dl fun i => f (ds.getD i .none)) (cw_start sa nD) (fun i H' hi p => ?_) (fun i x H' hi p => ?_) (fun H' p => ?_)
  · obtain ⟨_, _, _, x, _⟩ := p
    exact Same.tup x.gg hx
  · have hlt := (List.getElem?_eq_some_iff.mp hi).1
    obtain ⟨d, hd1, hd2⟩ := hd.get hi
    refine ⟨hw _, cw_turn p (by omega) fun A1 G1 y QV k => he x d A1 G1 (List.mem_of_getElem? hd1) (hd2.same y.aa) y QV fun A2 G2 v z hv => k A2 G2 v z ?_⟩
    rw [List.getD_eq_getElem?_getD, hd1]
    exact hv
  · rw [hl'] at p
    obtain ⟨A1, y, _, l, e, ea, al, ll⟩ := cw_end p sa (by omega)
    rw [e1] at al
    exact q Dl A1 H' l y e ea al ll
theorem i_ne_same {H : Hp} {x : Str} (q : Q (.bl false) H) : neP K (.str x) (.str x) H Q := by
  show neP K (S x.cps.toList) (S x.cps.toList) H Q
  refine i_ne_str ?_
  rw [decide_eq_true rfl]
  exact q
theorem i_eq_same {H : Hp} {x : Str} (q : Q (.bl true) H) : eqP K (.str x) (.str x) H Q := by
  show eqP K (S x.cps.toList) (S x.cps.toList) H Q
  refine i_eq_str ?_
  rw [decide_eq_true rfl]
  exact q
end
end Fg
/-! [line[:] for line in a list of lists]; data without lists, behind changes of lists. -/
namespace Fg
open PySem PySem.Spec PyProof.Rows L2
section
variable {K : PySem.W.Frag} {σ : L2.St} {A G H H' : Hp} {Q : VK} {te tl : TE} {j : Nat} {a : Addr} {xs : List V} {vs : List Nat}
def CpW (G : Hp) (ys : Nat → List V) (Dl : Addr) (i : Nat) (H' : Hp) : Prop := Same G H' ∧ ∃ l, H' Dl = some (.lst l) ∧ l.length = i ∧ ∀ k < i, ∃ c, l[k]? = some (.ref c) ∧ G c = none ∧ c ≠ Dl ∧ H' c = some (.lst (ys k))
theorem c_copy (ys : Nat → List V) (ha : ∀ R : VK, R (.ref a) G → tl σ G R) (hx : SqL K G a xs) (hn : xs.length ≤ 10000)
    (hl : ∀ i x, xs[i]? = some x → ∃ b, x = .ref b ∧ G b = some (.lst (ys i))) (hw : ∀ x, wipe ((wipe σ vs).set j (some x)) vs = wipe σ vs)
    (he : ∀ i b G1, xs[i]? = some (.ref b) → G1 b = some (.lst (ys i)) → ∀ QV : VK, (∀ p, G1 p = none → QV (.ref p) (upd G1 p (.lst (ys i)))) → te ((wipe σ vs).set j (some (.ref b))) G1 QV)
    (q : ∀ Dl G1 l, G Dl = none → Same G G1 → G1 Dl = some (.lst l) → l.length = xs.length → (∀ k < xs.length, ∃ c, l[k]? = some (.ref c) ∧ G c = none ∧ c ≠ Dl ∧ G1 c = some (.lst (ys k))) → Q (.ref Dl) G1) : tLc (iAny K tl) (gName j) tYes te vs σ G Q := by
  refine ha _ (.inl ⟨a, xs, rfl, hx, fun Dl nD => ?_⟩)
  refine lc_list (xs := xs) (CpW G ys Dl) ⟨same_upd nD, [], upd_same, rfl, fun k hk => absurd hk (Nat.not_lt_zero _)⟩ (fun i H' hi p => p.1.seq hx) (fun i x H' hi p => ?_) (fun H' p => ?_)
  · have hlt := (List.getElem?_eq_some_iff.mp hi).1
    obtain ⟨b, rfl, hb⟩ := hl i x hi
    refine ⟨hw _, i_yes ?_⟩
    rw [if_pos rfl]
    obtain ⟨s, l, hD, ll, hk⟩ := p
    refine he i b H' hi (s _ _ hb) _ fun p np => ?_
    have pD : Dl ≠ p := ne_of_none hD np
    refine ⟨l, (upd_ne pD).trans hD, by rw [ll]; exact Nat.lt_of_lt_of_le hlt (Nat.le_trans hn (by decide)), Same.upd (s.trans (same_upd np)) nD, l ++ [.ref p], upd_same, by rw [List.length_append, ll]; rfl, fun k hki => ?_⟩
    rcases Nat.lt_or_ge k i with h | h
    · obtain ⟨c, e1, e2, e3, e4⟩ := hk k h
      exact ⟨c, by rw [List.getElem?_append_left (by omega)]; exact e1, e2, e3, (upd_ne e3).trans ((upd_ne (ne_of_none e4 np)).trans e4)⟩
    · have : k = i := by omega
      subst this
      exact ⟨p, by rw [List.getElem?_append_right (by omega), ll, Nat.sub_self]; rfl, s.free np, pD.symm, (upd_ne pD.symm).trans upd_same⟩
  · obtain ⟨s, l, hD, ll, hk⟩ := p
    exact q Dl H' l nD s hD ll hk
theorem atAll_of : ∀ {l : List V} {ds : List PyData}, l.length = ds.length → (∀ (i : Nat) (v : V) (d : PyData), l[i]? = some v → ds[i]? = some d → At H v d) → AtAll H l ds
  | [], [], _, _ => .nil
  | v :: l, d :: ds, h, k => .cons (k 0 v d rfl rfl) (atAll_of (by simpa using h) fun i v d h1 h2 => k (i + 1) v d h1 h2)
  | [], _ :: _, h, _ => by simp at h
  | _ :: _, [], h, _ => by simp at h
/-- all tuples stay -/
def SmT (H H' : Hp) : Prop := ∀ b xs, H b = some (.tup xs) → H' b = some (.tup xs)
theorem Same.smT (s : Same H H') : SmT H H' := fun b xs e => s _ _ e
theorem SmT.trans {H'' : Hp} (s : SmT H H') (t : SmT H' H'') : SmT H H'' := fun b xs e => t _ _ (s _ _ e)
theorem SmT.put {p : Addr} {xs : List V} {o : HO} (e : H p = some (.lst xs)) : SmT H (upd H p o) := fun b ys h => by
  rw [upd_ne (fun z => by rw [z, e] at h; cases h)]
  exact h
mutual
def noL : PyData → Bool
  | .list _ => false
  | .dict _ => false
  | .tuple ds => noLs ds
  | .none => true
  | .bool _ => true
  | .int _ => true
  | .str _ => true
def noLs : List PyData → Bool
  | [] => true
  | d :: r => noL d && noLs r
end
theorem noLs_of : ∀ {ds : List PyData}, (∀ d ∈ ds, noL d = true) → noLs ds = true
  | [], _ => rfl
  | d :: r, h => by
    show (noL d && noLs r) = true
    rw [h d (List.mem_cons_self ..), noLs_of fun e he => h e (List.mem_cons_of_mem _ he)]
    rfl
mutual
theorem At.smT (s : SmT H H') : ∀ (d : PyData) (v : V), At H v d → noL d = true → At H' v d
  | .none, _, h, _ => by cases h; exact .non
  | .bool b, _, h, _ => by cases h; exact .bl b
  | .int i, _, h, _ => by cases h; exact .int i
  | .str x, _, h, _ => by
    cases h with
    | str l hl => exact .str l hl
  | .list ds, _, _, n => by cases n
  | .tuple ds, _, h, n => by
    cases h with
    | tup e l a => exact .tup (s _ _ e) l (AtAll.smT s ds _ a n)
  | .dict kvs, _, _, n => by cases n
theorem AtAll.smT (s : SmT H H') : ∀ (ds : List PyData) (vs : List V), AtAll H vs ds → noLs ds = true → AtAll H' vs ds
  | [], _, h, _ => by cases h; exact .nil
  | d :: ds, _, h, n => by
    have n' : (noL d && noLs ds) = true := n
    rw [Bool.and_eq_true] at n'
    cases h with
    | cons a b => exact .cons (At.smT s d _ a n'.1) (AtAll.smT s ds _ b n'.2)
end
theorem At.keep {v : V} {d : PyData} (h : At H v d) (s : SmT H H') (n : noL d = true) : At H' v d := At.smT s d v h n
theorem AtAll.keep {vs : List V} {ds : List PyData} (h : AtAll H vs ds) (s : SmT H H') (n : noLs ds = true) : AtAll H' vs ds := AtAll.smT s ds vs h n
/-- all but one -/
def wo (H : Hp) (p : Addr) : Hp := fun b => if b = p then none else H b
theorem wo_same {p : Addr} : wo H p p = none := if_pos rfl
theorem wo_ne {p b : Addr} (h : b ≠ p) : wo H p b = H b := if_neg h
theorem wo_sub {p : Addr} : Same (wo H p) H := fun b o e => by
  unfold wo at e
  split at e
  · cases e
  · exact e
theorem SmT.wo {p : Addr} {xs : List V} (e : H p = some (.lst xs)) : SmT H (wo H p) := fun b ys h => by
  rw [wo_ne (fun z => by rw [z, e] at h; cases h)]
  exact h
end
end Fg
namespace Fg
open PySem PySem.Spec PyProof.Rows L2
/-- all but p stands as it did -/
def But (p : Addr) (H H' : Hp) : Prop := ∀ b o, b ≠ p → H b = some o → H' b = some o
theorem But.refl (p : Addr) (H : Hp) : But p H H := fun _ _ _ e => e
theorem But.trans {p : Addr} {H H1 H2 : Hp} (a : But p H H1) (b : But p H1 H2) : But p H H2 := fun c o n e => b c o n (a c o n e)
theorem But.of {p : Addr} {H H' : Hp} (s : Same H H') : But p H H' := fun c o _ e => s c o e
theorem But.put {p : Addr} {H : Hp} {o : HO} : But p H (upd H p o) := fun c o' n e => by rw [upd_ne n]; exact e
theorem But.known {p : Addr} {A H H' : Hp} (h : But p H H') (s : Same A H) (n : A p = none) : Same A H' := fun b o e => h b o (ne_of_none e n) (s b o e)
end Fg
/-! xs[::-1] of lists and tuples. -/
namespace HT
open PySem PySem.W PySem.Calls PySem.Spec PyProof.Rows
section
variable {prog : Program} {w : World} {A : Around} {E : Value → Shared → Prop} {s : Shared}
theorem adjust_back (n : Nat) : Builtin.Slice.sliceAdjust none none (-1) (n : Int) = ((n : Int) - 1, -1) := by
  unfold Builtin.Slice.sliceAdjust
  rfl
theorem places_back (n : Nat) : Builtin.Slice.slicePlaces ((n : Int) - 1) (-1) (-1) = n := by
  unfold Builtin.Slice.slicePlaces
  have h1 : ¬ ((-1 : Int) > 0) := by omega
  have e : ((n : Int) - 1 - -1 - 1) / (- -1) = (n : Int) - 1 := by
    rw [show (- -1 : Int) = 1 by decide, Int.ediv_one]
    omega
  simp only [h1, if_false, e]
  split <;> omega
theorem fm_congr {α β : Type} {f g : α → Option β} : ∀ {l : List α}, (∀ x ∈ l, f x = g x) → l.filterMap f = l.filterMap g
  | [], _ => rfl
  | x :: r, h => by
    rw [List.filterMap_cons, List.filterMap_cons, h x (List.mem_cons_self ..), fm_congr fun y hy => h y (List.mem_cons_of_mem _ hy)]
theorem sliceApplied_back {sl : Addr} {vs : Value} {n : Nat} {Q : Int × Int × Nat → Shared → Prop} (hs : s.heap.IsSliceOf sl .none .none vs) (ps : IsPart vs (some (-1)))
    (h : Q ((n : Int) - 1, -1, n) s) : wpAny (model prog w) A (Builtin.Slice.sliceApplied (.ref sl) (pure (n : Int))) Q E s := by
  obtain ⟨os, hos, hcs, hds⟩ := id hs
  unfold Builtin.Slice.sliceApplied Builtin.Slice.sliceFields
  refine wpAny_bind (wpAny_bind (wpAny_field hos hds (x := .none) rfl (wpAny_bind (wpAny_field hos hds (x := .none) rfl (wpAny_bind (wpAny_field hos hds (x := vs) rfl (wpAny_pure ?_)))))))
  refine wpAny_bind (slicePart_ ps ?_)
  show wpAny _ _ (if ((-1 : Int) == 0) = true then _ else _) _ _ s
  rw [if_neg (by decide)]
  refine wpAny_bind (slicePart_none (wpAny_bind (slicePart_none (wpAny_bind (wpAny_pure ?_)))))
  show wpAny _ _ (match Builtin.Slice.sliceAdjust none none (-1) (n : Int) with | (lo, hi) => pure (lo, (-1 : Int), Builtin.Slice.slicePlaces lo hi (-1))) _ _ s
  rw [adjust_back n]
  show wpAny _ _ (pure ((n : Int) - 1, (-1 : Int), Builtin.Slice.slicePlaces ((n : Int) - 1) (-1) (-1))) _ _ s
  rw [places_back]
  exact wpAny_pure h
theorem pick_back (xs : Array Value) : ((List.range xs.size).filterMap fun (m : Nat) => xs[(((xs.size : Nat) : Int) - 1 + (m : Int) * (-1)).toNat]?).toArray = xs.toList.reverse.toArray := by
  have e : (List.range xs.size).filterMap (fun (m : Nat) => xs[(((xs.size : Nat) : Int) - 1 + (m : Int) * (-1)).toNat]?) = ((List.range xs.size).map fun k => xs.size - 1 - k).filterMap (xs[·]?) := by
    rw [List.filterMap_map]
    refine fm_congr fun m hm => ?_
    have := List.mem_range.mp hm
    show xs[_]? = xs[xs.size - 1 - m]?
    congr 1
    omega
  rw [e, krv_range, List.filterMap_reverse, krv_all]
theorem getItem_tuple_back {t sl : Addr} {items : Array Value} {vs : Value} {Q : Value → Shared → Prop} (ht : IsTup s.heap t items) (hs : s.heap.IsSliceOf sl .none .none vs) (ps : IsPart vs (some (-1)))
    (h : Q (.ref s.heap.objs.size) { s with heap := s.heap.push { cls := .type "tuple", data := .seq items.toList.reverse.toArray } })
    (hsz : items.size ≤ sizeLine) : wpAny (model prog w) A (getItem (.ref t) (.ref sl)) Q E s := by
  have htake : sizeOk (.seq items.toList.reverse.toArray) := by
    show items.toList.reverse.toArray.size ≤ sizeLine
    rw [List.size_toArray, List.length_reverse, Array.length_toList]
    omega
  obtain ⟨os, hos, hcs, hds⟩ := id hs
  have hTs : s.TypeIs (.ref sl) "slice" := ⟨os, hos, hcs⟩
  unfold getItem
  try with_reducible refine wpAny_holding ?_
  first | refine wpAny_bind (wpAny_pure ?_) | skip
  refine wpAny_bind (wpAny_sequenceKey ht.typeIs (by decide) ?_)
  refine wpAny_bind (wpAny_callSpecial?_slot (name := Str.ofString "__getitem__") ht.typeIs PyProof.Rows.slot_tuple_getitem
    (wpAny_call_entry PyProof.Rows.slot_tuple_getitem ht.typeIs entry_tuple_getitem ?_ (args_tuple_getitem _ _)))
  show wpAny _ _ (Builtin.Tuple.tupleItemsOf (.ref t) >>= _) _ _ s
  refine wpAny_bind (tupleItemsOf_ ht ?_)
  refine wpAny_bind (wpAny_typeOf hTs ?_)
  rw [if_pos (by decide)]
  refine wpAny_bind (sliceApplied_back hs ps ?_)
  have hno : ¬ ((((items.size : Int) - 1) == 0 && (-1 : Int) == 1 && items.size == items.size) = true) := by
    intro q
    rw [Bool.and_eq_true, Bool.and_eq_true] at q
    exact absurd q.1.2 (by decide)
  show wpAny _ _ (if (((items.size : Int) - 1) == 0 && (-1 : Int) == 1 && items.size == items.size) = true then _ else _) _ _ s
  rw [if_neg hno, pick_back]
  first
    | exact wpAny_bind (m := Builtin.Tuple.tupleExact _) (wpAny_newObj_type (wpAny_pure ⟨_, rfl, wpAny_pure h⟩) htake)
    | exact wpAny_bind (m := Builtin.Tuple.tupleExact _) (wpAny_newObj_type (wpAny_bind (wpAny_pure (wpAny_pure ⟨_, rfl, wpAny_pure h⟩))) htake)
    | exact wpAny_bind (wpAny_bind (m := Builtin.Tuple.tupleExact _) (wpAny_newObj_type (wpAny_pure (wpAny_pure ⟨_, rfl, wpAny_pure h⟩)) htake))
    | exact wpAny_bind (wpAny_bind (m := Builtin.Tuple.tupleExact _) (wpAny_newObj_type (wpAny_pure ⟨_, rfl, wpAny_pure h⟩) htake))
end
end HT
namespace Fg
open PySem PySem.Spec PyProof.Rows L2
theorem Vals.rev : ∀ {xs : List V} {us : List Value}, Vals xs us → Vals xs.reverse us.reverse
  | _, _, .nil => .nil
  | x :: xs, u :: us, .cons a b => by
    rw [List.reverse_cons, List.reverse_cons]
    exact (Vals.rev b).append (.cons a .nil)
section
variable {X : Cx} (K : PySem.W.Frag) {e st : Expr} {te : TE} {p2 pos : PySem.Pos}
def tRev (K : PySem.W.Frag) (te : TE) : TE := fun σ H Q => te σ H fun x H1 => (∃ a xs, x = .ref a ∧ SqL K H1 a xs ∧ ∀ p, H1 p = none → Q (.ref p) (upd H1 p (.lst xs.reverse))) ∨ (∃ a xs, x = .ref a ∧ SqT K H1 a xs ∧ ∀ p, H1 p = none → Q (.ref p) (upd H1 p (.tup xs.reverse)))
theorem pe_rev (he : PE X e te) (hst : PO X (some st) (tPart (tUn (rU fun i => .int (-i)) (tC (.int 1))))) (hK : X.K = K := by rfl) : PE X (.Subscript e (.Slice none none (some st) p2) pos) (tRev K te) := by
  subst hK
  refine ⟨fun pins s σ H Q I h => ?_⟩
  refine Subscript_ (thn (he.run pins s σ H _ I h) fun v s1 ⟨x, H1, I1, r1, q1⟩ => ?_)
  refine wpAny_Slice ?_
  rw [evalPart_none]
  refine wpAny_pure ?_
  refine wpAny_pure ?_
  refine thn (hst.run pins s1 σ H1 (fun o H' => o = some (-1) ∧ H' = H1) I1 ⟨1, rfl, -1, rfl, rfl, rfl⟩) fun vs s2 ⟨o, H2, I2, ps, e1, e2⟩ => ?_
  subst e1 e2
  have I3 : Inv X pins σ H2 { s2 with heap := s2.heap.push { cls := .type "slice", data := .fields #[.none, .none, vs] } } := I2.kept (t' := s2.toks) fun b ob q => Heap.get?_push_of_some _ q
  have hs : ({ s2 with heap := s2.heap.push { cls := .type "slice", data := .fields #[.none, .none, vs] } } : Shared).heap.IsSliceOf s2.heap.objs.size .none .none vs := Heap.IsSliceOf.new ..
  generalize ({ s2 with heap := s2.heap.push { cls := .type "slice", data := .fields #[.none, .none, vs] } } : Shared) = s3 at *
  generalize s2.heap.objs.size = sl at *
  show wpAny (model X.prog X.w) X.A (subscriptTail e (.Slice none none (some st) p2) v (.ref sl)) (EP X pins σ Q) X.xe s3
  rcases q1 with ⟨a, xs, rfl, hx, q⟩ | ⟨a, xs, rfl, hx, q⟩
  · cases r1
    obtain ⟨its, r, ht, hz⟩ := I3.list hx
    refine tail_any (ops := [.ref a, .ref sl]) ht.isList.typeIs slot_list_getitem.lookup ?_ (by with_unfolding_all rfl)
    have hlen := r.length
    refine wpAny_getItem_list_slice ht.isList hs .none .none ps (by decide) ?_ (by rw [List.size_toArray]; omega)
    rw [PySem.W.krv_pick]
    refine ⟨.ref s3.heap.objs.size, _, I3.laid (t' := s3.toks) (o := .lst xs.reverse) (fun b ob q => Heap.get?_push_of_some _ q) (Nat.le_refl _) ?_, rfl, q _ (I3.hok.fresh (Nat.le_refl _))⟩
    exact ⟨by rw [List.length_reverse]; exact hz, _, 0, Vals.rev r, Heap.get?_push_size _ rfl⟩
  · cases r1
    obtain ⟨its, r, ht, hz⟩ := I3.tuple hx
    refine tail_any (ops := [.ref a, .ref sl]) ht.typeIs PyProof.Rows.slot_tuple_getitem.lookup ?_ (by with_unfolding_all rfl)
    have hlen := r.length
    refine HT.getItem_tuple_back ht hs ps ?_ (by rw [List.size_toArray]; omega)
    refine ⟨.ref s3.heap.objs.size, _, I3.laid (t' := s3.toks) (o := .tup xs.reverse) (fun b ob q => Heap.get?_push_of_some _ q) (Nat.le_refl _) ?_, rfl, q _ (I3.hok.fresh (Nat.le_refl _))⟩
    exact ⟨by rw [List.length_reverse]; exact hz, _, Vals.rev r, IsTup.new _ _⟩
end
section
variable {K : PySem.W.Frag} {σ : L2.St} {H : Hp} {Q : VK} {te : TE} {a : Addr} {xs : List V} {B : Prop}
theorem i_rev (q : te σ H fun x H1 => (∃ a xs, x = .ref a ∧ SqL K H1 a xs ∧ ∀ p, H1 p = none → Q (.ref p) (upd H1 p (.lst xs.reverse))) ∨ (∃ a xs, x = .ref a ∧ SqT K H1 a xs ∧ ∀ p, H1 p = none → Q (.ref p) (upd H1 p (.tup xs.reverse)))) : tRev K te σ H Q := q
theorem i_revL {P : List V → Prop} (h : SqL K H a xs) (q : P xs) : (∃ a' xs', V.ref a = .ref a' ∧ SqL K H a' xs' ∧ P xs') ∨ B := .inl ⟨a, xs, rfl, h, q⟩
theorem i_revT {P : List V → Prop} (h : SqT K H a xs) (q : P xs) : B ∨ (∃ a' xs', V.ref a = .ref a' ∧ SqT K H a' xs' ∧ P xs') := .inr ⟨a, xs, rfl, h, q⟩
end
end Fg
/-! repr of data in a list that may hold {}; comprehensions whose elements are new. -/
namespace Fg
open PySem PySem.Spec PyProof.Rows L2
def flatE (d : PyData) : Prop := d.hasDict = false ∨ d = .dict []
/-- without dicts, {} itself, or a list of such -/
def flatL (d : PyData) : Prop := flatE d ∨ ∃ ds, d = .list ds ∧ ∀ e ∈ ds, flatE e
section
variable {X : Cx} {pins : List (Addr × Obj)} {σ : L2.St} {H : Hp} {s : Shared}
theorem reads_ed {a : Addr} (I : Inv X pins σ H s) (e : H a = some (.dK [])) : Reads s.heap (.ref a) (.dict []) [a] ∧ sysModules ∉ [a] := by
  obtain ⟨_, hs, vs, r, o, es, ep, ho, hx, hdat, _, hp, _⟩ := dk_of I.hok e
  cases r
  obtain ⟨es⟩ := es
  have hes : es = [] := by
    cases hp
    rfl
  subst hes
  refine ⟨Reads.dict (kvs := []) (as := []) (bs := []) ho hx.1 hdat .nil .nil, fun z => ?_⟩
  rw [List.mem_singleton.mp z, beq_self_eq_true] at hs
  cases hs
theorem item_ed {v : V} {u : Value} {d : PyData} (I : Inv X pins σ H s) (h : At H v d) (r : RelV v u) (n : flatE d) : ∃ as, Reads s.heap u d as ∧ (d.hasDict = true → sysModules ∉ as) := by
  rcases n with n | rfl
  · obtain ⟨as, rd⟩ := Dp.reads I d v u (h.dp X.K d v n) r
    exact ⟨as, rd, PyData.noDict_hsm n⟩
  · cases h with
    | dct e =>
      cases r
      obtain ⟨rd, z⟩ := reads_ed I e
      exact ⟨_, rd, fun _ => z⟩
theorem all_ed (I : Inv X pins σ H s) : ∀ {ds : List PyData} {vs : List V} {us : List Value}, AtAll H vs ds → Vals vs us → (∀ d ∈ ds, flatE d) → PyData.showableAll ds = true → (∀ t ∈ PyData.shownAll ds, t.length ≤ sizeLine) →
    (∃ as, ReadsAll s.heap us ds as) ∧ ∃ bs, ReadAtMost s.heap (PyData.depthAll ds) bs ∧ ReprAllK X.prog X.w bs s.heap (PyData.depthAll ds) us (PyData.shownAll ds)
  | [], _, _, h, r, _, _, _ => by
    cases h
    cases r
    exact ⟨⟨_, .nil⟩, [], fun _ z => absurd z List.not_mem_nil, by simp only [PyData.shownAll]; exact .nil⟩
  | d :: ds, _, _, h, r, n, sh, z => by
    cases h with
    | cons h1 h2 =>
    cases r with
    | cons r1 r2 =>
    have sh' : (d.showable && PyData.showableAll ds) = true := by simpa only [PyData.showableAll] using sh
    rw [Bool.and_eq_true] at sh'
    obtain ⟨as, q1, q2⟩ := item_ed I h1 r1 (n d (List.mem_cons_self ..))
    obtain ⟨b1, m1, k1⟩ := ReprK.of_reads (prog := X.prog) (w := X.w) q1 sh'.1 q2 (z _ (by simp only [PyData.shownAll]; exact List.mem_cons_self ..))
    obtain ⟨⟨cs, q3⟩, b2, m2, k2⟩ := all_ed I h2 r2 (fun e he => n e (List.mem_cons_of_mem _ he)) sh'.2 (fun t ht => z t (by simp only [PyData.shownAll]; exact List.mem_cons_of_mem _ ht))
    have l1 : d.depth ≤ PyData.depthAll (d :: ds) := by simp only [PyData.depthAll]; exact Nat.le_max_left ..
    have l2 : PyData.depthAll ds ≤ PyData.depthAll (d :: ds) := by simp only [PyData.depthAll]; exact Nat.le_max_right ..
    refine ⟨⟨_, .cons q1 q3⟩, b1 ++ b2, (m1.mono l1).append (m2.mono l2), ?_⟩
    have e : PyData.shownAll (d :: ds) = d.shown :: PyData.shownAll ds := by simp only [PyData.shownAll]
    rw [e]
    exact .cons ((k1.more fun b hb => List.mem_append_left b2 hb).level_le l1) (k2.more_le (fun b hb => List.mem_append_right b1 hb) l2)
end
def rReprB (K : PySem.W.Frag) : RC := fun xs H Q => ∃ (v : V) (d : PyData), xs = [v] ∧ At H v d ∧ d.showable = true ∧ flatL d ∧ d.depth ≤ 60 ∧ d.shown.length ≤ sizeLine ∧ Q (.str d.shown) H
theorem cReprB (K : PySem.W.Frag) {X : Cx} (hgu : X.A.guards = some []) (hu : X.A.units + 64 < cLine) (hK : X.K = K := by rfl) : CallR X (.builtin "repr") (rReprB K) := by
  subst hK
  intro pins s σ H xs us Q I r h
  obtain ⟨v, d, rfl, hd, h1, h2, h3, h4, q⟩ := h
  by_cases nd : d.hasDict = false
  · exact cReprA X.K hgu hu rfl pins s σ H [v] us Q I r ⟨v, d, rfl, hd.dp X.K d v nd, h1, nd, h3, h4, q⟩
  cases r with
  | cons ru rn =>
  cases rn
  rcases h2 with (z | rfl) | ⟨ds, rfl, n⟩
  · exact absurd z nd
  · cases hd with
    | dct e =>
      cases ru
      obtain ⟨rd, z⟩ := reads_ed I e
      exact repr_of_reads' rd h1 (fun _ => z) hgu (by omega) (fun b o e => e) (fun h' u tk hk => ⟨.str _, H, I.kept (t' := tk) hk, ⟨u, rfl⟩, q⟩) h4
  · cases hd with
    | @lst a xs _ e hl al =>
      cases ru
      obtain ⟨its, rv, ⟨o, nn, ho, hc, _, hdat⟩, _⟩ := I.list (.inl (.inl e))
      have sz : (listText (PyData.shownAll ds)).length ≤ sizeLine := by simpa only [PyData.shown] using h4
      obtain ⟨⟨as, rd⟩, bs, hb, hk⟩ := all_ed I al rv n (by simpa only [PyData.showable] using h1) (fun t ht => Nat.le_trans (listText_mem_le ht) sz)
      have na : a ∉ bs := not_mem_of_deeper (Reads.list ho hc hdat rd) (by simp only [PyData.depth]; omega) hb
      cases its with
      | nil =>
        cases rv
        cases al
        exact absurd (by simp [PyData.hasDict, PyData.hasDictAll]) nd
      | cons u us =>
        simp only [PyData.depth] at h3
        have q' : Q (.str (listText (PyData.shownAll ds))) H := by simpa only [PyData.shown] using q
        exact call_repr_slot (by omega) ⟨o, ho, hc⟩ F.slot_list_repr.toG (call_list_reprK ho hc hdat na (by simpa using hk.length_eq) (fun i y ey => hk.item i y (by simpa using ey)) (g := []) (by show X.A.guards = _; exact hgu) (fun b _ => Clear.nil b)
          (by show X.A.units + 1 + (PyData.depthAll ds + 1) < cLine; omega) (fun b o e => e) (fun h' w tk hk' => ⟨_, _, rfl, ⟨.str _, H, I.kept (t' := tk) hk', ⟨w, rfl⟩, q'⟩⟩) sz)
section
variable {K : PySem.W.Frag} {H : Hp} {Q : VK} {v : V} {d : PyData} {m : Nat}
theorem i_reprB (h : At H v d) (r : Rp m d) (hm : m ≤ 20000) (nd : flatL d) (dp : d.depth ≤ 60) (q : Q (.str d.shown) H) : rReprB K [v] H Q := ⟨v, d, rfl, h, r.sh, nd, dp, r.fits hm, q⟩
end
section
variable {K : PySem.W.Frag} {σ : L2.St} {G : Hp} {Q : VK} {te tl : TE} {j : Nat} {a : Addr} {xs : List V} {vs : List Nat}
def NwW (G : Hp) (o : Nat → HO) (Dl : Addr) (i : Nat) (H' : Hp) : Prop := Same G H' ∧ ∃ l, H' Dl = some (.lst l) ∧ l.length = i ∧ ∀ k < i, ∃ c, l[k]? = some (.ref c) ∧ G c = none ∧ c ≠ Dl ∧ H' c = some (o k)
/-- [te for j in a list], each element a new object -/
theorem c_new (o : Nat → HO) (ha : ∀ R : VK, R (.ref a) G → tl σ G R) (hx : SqL K G a xs) (hn : xs.length ≤ 10000) (hw : ∀ x, wipe ((wipe σ vs).set j (some x)) vs = wipe σ vs)
    (he : ∀ i x G1, xs[i]? = some x → Same G G1 → ∀ QV : VK, (∀ p, G1 p = none → QV (.ref p) (upd G1 p (o i))) → te ((wipe σ vs).set j (some x)) G1 QV)
    (q : ∀ Dl G1 l, G Dl = none → Same G G1 → G1 Dl = some (.lst l) → l.length = xs.length → (∀ k < xs.length, ∃ c, l[k]? = some (.ref c) ∧ G c = none ∧ c ≠ Dl ∧ G1 c = some (o k)) → Q (.ref Dl) G1) : tLc (iAny K tl) (gName j) tYes te vs σ G Q := by
  refine ha _ (.inl ⟨a, xs, rfl, hx, fun Dl nD => ?_⟩)
  refine lc_list (xs := xs) (NwW G o Dl) ⟨same_upd nD, [], upd_same, rfl, fun k hk => absurd hk (Nat.not_lt_zero _)⟩ (fun i H' hi p => p.1.seq hx) (fun i x H' hi p => ?_) (fun H' p => ?_)
  · have hlt := (List.getElem?_eq_some_iff.mp hi).1
    refine ⟨hw _, i_yes ?_⟩
    rw [if_pos rfl]
    obtain ⟨s, l, hD, ll, hk⟩ := p
    refine he i x H' hi s _ fun p np => ?_
    have pD : Dl ≠ p := ne_of_none hD np
    refine ⟨l, (upd_ne pD).trans hD, by rw [ll]; exact Nat.lt_of_lt_of_le hlt (Nat.le_trans hn (by decide)), Same.upd (s.trans (same_upd np)) nD, l ++ [.ref p], upd_same, by rw [List.length_append, ll]; rfl, fun k hki => ?_⟩
    rcases Nat.lt_or_ge k i with h | h
    · obtain ⟨c, e1, e2, e3, e4⟩ := hk k h
      exact ⟨c, by rw [List.getElem?_append_left (by omega)]; exact e1, e2, e3, (upd_ne e3).trans ((upd_ne (ne_of_none e4 np)).trans e4)⟩
    · have : k = i := by omega
      subst this
      exact ⟨p, by rw [List.getElem?_append_right (by omega), ll, Nat.sub_self]; rfl, s.free np, pD.symm, (upd_ne pD.symm).trans upd_same⟩
  · obtain ⟨s, l, hD, ll, hk⟩ := p
    exact q Dl H' l nD s hD ll hk
end
end Fg
namespace K75
open PySem PySem.Spec PyProof.Rows L2 Fg
def topS (i : Nat) : Stmt := PySem.Challenge.pw_falseglim_k75_signals_and_rows.main.body.getD i (.Pass ⟨0, 0, 0, 0⟩)
abbrev s_deep : Stmt := topS 11
theorem sc_deep : FnScope ["thing", "level", "part"] ["thing", "level"] (defScope s_deep) := ⟨rfl, rfl, rfl, by decide +kernel, rfl, by decide +kernel, by decide +kernel⟩
abbrev s_wrong_sign : Stmt := topS 12
theorem sc_wrong_sign : FnScope ["row", "place", "sign"] ["row"] (defScope s_wrong_sign) := ⟨rfl, rfl, rfl, by decide +kernel, rfl, by decide +kernel, by decide +kernel⟩
abbrev s_is_row : Stmt := topS 13
theorem sc_is_row : FnScope ["thing", "most"] ["thing", "most"] (defScope s_is_row) := ⟨rfl, rfl, rfl, by decide +kernel, rfl, by decide +kernel, by decide +kernel⟩
abbrev s_is_letter : Stmt := topS 14
theorem sc_is_letter : FnScope ["thing"] ["thing"] (defScope s_is_letter) := ⟨rfl, rfl, rfl, by decide +kernel, rfl, by decide +kernel, by decide +kernel⟩
abbrev s_check_round : Stmt := topS 15
theorem sc_check_round : FnScope ["thing", "place"] ["thing"] (defScope s_check_round) := ⟨rfl, rfl, rfl, by decide +kernel, rfl, by decide +kernel, by decide +kernel⟩
abbrev s_is_signal : Stmt := topS 21
theorem sc_is_signal : FnScope ["thing"] ["thing"] (defScope s_is_signal) := ⟨rfl, rfl, rfl, by decide +kernel, rfl, by decide +kernel, by decide +kernel⟩
abbrev s_check_signals : Stmt := topS 22
theorem sc_check_signals : FnScope ["signals", "there", "number", "signal"] ["signals"] (defScope s_check_signals) := ⟨rfl, rfl, rfl, by decide +kernel, rfl, by decide +kernel, by decide +kernel⟩
abbrev s_wrong_piece : Stmt := topS 23
theorem sc_wrong_piece : FnScope ["signals", "message", "place", "piece"] ["signals", "message"] (defScope s_wrong_piece) := ⟨rfl, rfl, rfl, by decide +kernel, rfl, by decide +kernel, by decide +kernel⟩
abbrev s_message_row : Stmt := topS 24
theorem sc_message_row : FnScope ["signals", "message", "piece"] ["signals", "message"] (defScope s_message_row) := ⟨rfl, rfl, rfl, by decide +kernel, rfl, by decide +kernel, by decide +kernel⟩
abbrev s_Signals___init__ : Stmt := inClass (topS 25) 0
theorem sc_Signals___init__ : FnScope ["self", "plain", "signals", "told", "letter", "word"] ["self", "plain", "signals"] (defScope s_Signals___init__) := ⟨rfl, rfl, rfl, by decide +kernel, rfl, by decide +kernel, by decide +kernel⟩
abbrev s_Signals___len__ : Stmt := inClass (topS 25) 1
theorem sc_Signals___len__ : FnScope ["self"] ["self"] (defScope s_Signals___len__) := ⟨rfl, rfl, rfl, by decide +kernel, rfl, by decide +kernel, by decide +kernel⟩
abbrev s_Signals___iter__ : Stmt := inClass (topS 25) 2
theorem sc_Signals___iter__ : FnScope ["self"] ["self"] (defScope s_Signals___iter__) := ⟨rfl, rfl, rfl, by decide +kernel, rfl, by decide +kernel, by decide +kernel⟩
abbrev s_Signals___eq__ : Stmt := inClass (topS 25) 3
theorem sc_Signals___eq__ : FnScope ["self", "other"] ["self", "other"] (defScope s_Signals___eq__) := ⟨rfl, rfl, rfl, by decide +kernel, rfl, by decide +kernel, by decide +kernel⟩
abbrev s_Signals___call__ : Stmt := inClass (topS 25) 4
theorem sc_Signals___call__ : FnScope ["self", "message", "place"] ["self", "message"] (defScope s_Signals___call__) := ⟨rfl, rfl, rfl, by decide +kernel, rfl, by decide +kernel, by decide +kernel⟩
abbrev s_Signals_pieces : Stmt := inClass (topS 25) 5
theorem sc_Signals_pieces : FnScope ["self"] ["self"] (defScope s_Signals_pieces) := ⟨rfl, rfl, rfl, by decide +kernel, rfl, by decide +kernel, by decide +kernel⟩
abbrev s_L_draw : Stmt := topS 27
theorem sc_L_draw : FnScope ["_law_script", "_law_cells", "_law_cell"] ["_law_script"] (defScope s_L_draw) := ⟨rfl, rfl, rfl, by decide +kernel, rfl, by decide +kernel, by decide +kernel⟩
abbrev s_L_mix : Stmt := topS 28
theorem sc_L_mix : FnScope ["_law_cell", "_law_turn", "_law_one", "_law_two"] ["_law_cell", "_law_turn"] (defScope s_L_mix) := ⟨rfl, rfl, rfl, by decide +kernel, rfl, by decide +kernel, by decide +kernel⟩
abbrev s_L_pick : Stmt := topS 29
theorem sc_L_pick : FnScope ["_law_draw_here", "_law_many", "_law_cell", "_law_digit", "_law_found"] ["_law_draw_here", "_law_many"] (defScope s_L_pick) := ⟨rfl, rfl, rfl, by decide +kernel, rfl, by decide +kernel, by decide +kernel⟩
abbrev s_L_sign : Stmt := topS 30
theorem sc_L_sign : FnScope ["_law_draw_here"] ["_law_draw_here"] (defScope s_L_sign) := ⟨rfl, rfl, rfl, by decide +kernel, rfl, by decide +kernel, by decide +kernel⟩
abbrev s_L_round : Stmt := topS 31
theorem sc_L_round : FnScope ["_law_draw_here", "_law_most", "_law_turn"] ["_law_draw_here", "_law_most"] (defScope s_L_round) := ⟨rfl, rfl, rfl, by decide +kernel, rfl, by decide +kernel, by decide +kernel⟩
abbrev s_L_bent : Stmt := topS 32
theorem sc_L_bent : FnScope ["_law_draw_here", "_law_row", "_law_place", "_law_kind"] ["_law_draw_here", "_law_row"] (defScope s_L_bent) := ⟨rfl, rfl, rfl, by decide +kernel, rfl, by decide +kernel, by decide +kernel⟩
abbrev s_L_letter : Stmt := topS 33
theorem sc_L_letter : FnScope ["_law_draw_here", "_law_used", "_law_pool", "_law_letter_here"] ["_law_draw_here", "_law_used"] (defScope s_L_letter) := ⟨rfl, rfl, rfl, by decide +kernel, rfl, by decide +kernel, by decide +kernel⟩
abbrev s_L_talk : Stmt := topS 34
theorem sc_L_talk : FnScope ["_law_draw_here", "_law_many", "_law_most", "_law_plain", "_law_pairs", "_law_used", "_law_last", "_law_turn", "_law_word", "_law_kind"] ["_law_draw_here", "_law_many", "_law_most"] (defScope s_L_talk) := ⟨rfl, rfl, rfl, by decide +kernel, rfl, by decide +kernel, by decide +kernel⟩
abbrev s_L_formed : Stmt := topS 35
theorem sc_L_formed : FnScope ["_law_draw_here", "_law_pairs", "_law_kind", "_law_pair"] ["_law_draw_here", "_law_pairs"] (defScope s_L_formed) := ⟨rfl, rfl, rfl, by decide +kernel, rfl, by decide +kernel, by decide +kernel⟩
abbrev s_L_odd_round : Stmt := topS 36
theorem sc_L_odd_round : FnScope ["_law_draw_here", "_law_menu"] ["_law_draw_here"] (defScope s_L_odd_round) := ⟨rfl, rfl, rfl, by decide +kernel, rfl, by decide +kernel, by decide +kernel⟩
abbrev s_L_odd_signal : Stmt := topS 37
theorem sc_L_odd_signal : FnScope ["_law_draw_here", "_law_pairs", "_law_menu", "_law_kind"] ["_law_draw_here", "_law_pairs"] (defScope s_L_odd_signal) := ⟨rfl, rfl, rfl, by decide +kernel, rfl, by decide +kernel, by decide +kernel⟩
abbrev s_L_odd_signals : Stmt := topS 38
theorem sc_L_odd_signals : FnScope ["_law_draw_here", "_law_pairs", "_law_kind", "_law_told", "_law_place", "_law_turn", "_law_pair"] ["_law_draw_here", "_law_pairs"] (defScope s_L_odd_signals) := ⟨rfl, rfl, rfl, by decide +kernel, rfl, by decide +kernel, by decide +kernel⟩
abbrev s_L_wrong_sign : Stmt := topS 39
theorem sc_L_wrong_sign : FnScope ["_law_row", "_law_most", "_law_place"] ["_law_row", "_law_most"] (defScope s_L_wrong_sign) := ⟨rfl, rfl, rfl, by decide +kernel, rfl, by decide +kernel, by decide +kernel⟩
abbrev s_L_wrong_signal : Stmt := topS 40
theorem sc_L_wrong_signal : FnScope ["_law_told", "_law_used", "_law_number", "_law_thing"] ["_law_told"] (defScope s_L_wrong_signal) := ⟨rfl, rfl, rfl, by decide +kernel, rfl, by decide +kernel, by decide +kernel⟩
abbrev s_L_made : Stmt := topS 41
theorem sc_L_made : FnScope ["_law_plain", "_law_told", "e", "_law_kinds"] ["_law_plain", "_law_told"] (defScope s_L_made) := ⟨rfl, rfl, rfl, by decide +kernel, rfl, by decide +kernel, by decide +kernel⟩
abbrev s_L_is_refused_well : Stmt := topS 42
theorem sc_L_is_refused_well : FnScope ["_law_draw_here", "_law_plain", "_law_pairs", "_law_told", "_law_kind", "_law_due", "_law_before"] ["_law_draw_here", "_law_plain", "_law_pairs"] (defScope s_L_is_refused_well) := ⟨rfl, rfl, rfl, by decide +kernel, rfl, by decide +kernel, by decide +kernel⟩
abbrev s_L_message : Stmt := topS 43
theorem sc_L_message : FnScope ["_law_draw_here", "_law_names", "_law_message_here", "_law_turn", "_law_place", "_law_sign_here"] ["_law_draw_here", "_law_names"] (defScope s_L_message) := ⟨rfl, rfl, rfl, by decide +kernel, rfl, by decide +kernel, by decide +kernel⟩
abbrev s_L_row_due : Stmt := topS 44
theorem sc_L_row_due : FnScope ["_law_plain", "_law_pairs", "_law_message_here", "_law_rows", "_law_pair", "_law_row", "_law_place"] ["_law_plain", "_law_pairs", "_law_message_here"] (defScope s_L_row_due) := ⟨rfl, rfl, rfl, by decide +kernel, rfl, by decide +kernel, by decide +kernel⟩
abbrev s_L_row_told : Stmt := topS 45
theorem sc_L_row_told : FnScope ["_law_signals", "_law_message_here", "_law_row", "e"] ["_law_signals", "_law_message_here"] (defScope s_L_row_told) := ⟨rfl, rfl, rfl, by decide +kernel, rfl, by decide +kernel, by decide +kernel⟩
abbrev s_L_is_told : Stmt := topS 46
theorem sc_L_is_told : FnScope ["_law_signals", "_law_plain", "_law_pairs", "_law_pair"] ["_law_signals", "_law_plain", "_law_pairs"] (defScope s_L_is_told) := ⟨rfl, rfl, rfl, by decide +kernel, rfl, by decide +kernel, by decide +kernel⟩
abbrev s_L_spoil : Stmt := topS 47
theorem sc_L_spoil : FnScope ["_law_told"] ["_law_told"] (defScope s_L_spoil) := ⟨rfl, rfl, rfl, by decide +kernel, rfl, by decide +kernel, by decide +kernel⟩
abbrev s_L_asked : Stmt := topS 48
theorem sc_L_asked : FnScope ["_law_draw_here", "_law_plain", "_law_pairs", "_law_told", "_law_before", "_law_signals", "_law_other_plain", "_law_other_pairs", "_law_kind", "_law_place", "_law_other", "_law_same", "_law_thing", "_law_turn", "_law_message_here", "_law_alone", "_law_pair"] ["_law_draw_here"] (defScope s_L_asked) := ⟨rfl, rfl, rfl, by decide +kernel, rfl, by decide +kernel, by decide +kernel⟩
abbrev s_law : Stmt := topS 49
theorem sc_law : FnScope ["_law_script"] ["_law_script"] (defScope s_law) := ⟨rfl, rfl, rfl, by decide +kernel, rfl, by decide +kernel, by decide +kernel⟩
abbrev s_BadRow : Stmt := inClass (topS 2) 0
theorem sc_BadRow : FnScope ["self", "number"] ["self", "number"] (defScope s_BadRow) := ⟨rfl, rfl, rfl, by decide +kernel, rfl, by decide +kernel, by decide +kernel⟩
abbrev s_BadRound : Stmt := inClass (topS 3) 0
theorem sc_BadRound : FnScope ["self", "number"] ["self", "number"] (defScope s_BadRound) := ⟨rfl, rfl, rfl, by decide +kernel, rfl, by decide +kernel, by decide +kernel⟩
abbrev s_BadSignal : Stmt := inClass (topS 4) 0
theorem sc_BadSignal : FnScope ["self", "number"] ["self", "number"] (defScope s_BadSignal) := ⟨rfl, rfl, rfl, by decide +kernel, rfl, by decide +kernel, by decide +kernel⟩
abbrev s_BadMessage : Stmt := inClass (topS 5) 0
theorem sc_BadMessage : FnScope ["self", "number"] ["self", "number"] (defScope s_BadMessage) := ⟨rfl, rfl, rfl, by decide +kernel, rfl, by decide +kernel, by decide +kernel⟩
/-- what the top has written -/
structure Txt (K : PySem.W.Frag) (mg : Str → Option Value) (C_GlimError : Addr) (C_BadRow : Addr) (C_BadRound : Addr) (C_BadSignal : Addr) (C_BadMessage : Addr) (C_Signals : Addr) (C_dt_Signals___init__ : Addr) : Prop where
  d_deep : DefD K mg "deep" s_deep ["thing", "level"] [.int (0)]
  d_wrong_sign : DefIn K mg "wrong_sign" s_wrong_sign ["row"]
  d_is_row : DefIn K mg "is_row" s_is_row ["thing", "most"]
  d_is_letter : DefIn K mg "is_letter" s_is_letter ["thing"]
  d_check_round : DefIn K mg "check_round" s_check_round ["thing"]
  d_is_signal : DefIn K mg "is_signal" s_is_signal ["thing"]
  d_check_signals : DefIn K mg "check_signals" s_check_signals ["signals"]
  d_wrong_piece : DefIn K mg "wrong_piece" s_wrong_piece ["signals", "message"]
  d_message_row : DefIn K mg "message_row" s_message_row ["signals", "message"]
  m_Signals___init__ : MkIn K mg "Signals" "Signals.__init__" C_Signals s_Signals___init__ ["self", "plain", "signals"] [.ref C_dt_Signals___init__]
  m_Signals___len__ : MetIn K C_Signals "__len__" "Signals.__len__" s_Signals___len__ ["self"] []
  m_Signals___iter__ : MetIn K C_Signals "__iter__" "Signals.__iter__" s_Signals___iter__ ["self"] []
  m_Signals___eq__ : MetIn K C_Signals "__eq__" "Signals.__eq__" s_Signals___eq__ ["self", "other"] []
  m_Signals___call__ : MetIn K C_Signals "__call__" "Signals.__call__" s_Signals___call__ ["self", "message"] []
  m_Signals_pieces : PropIn K C_Signals "pieces" "Signals.pieces" s_Signals_pieces
  d_L_draw : DefIn K mg "_law_draw" s_L_draw ["_law_script"]
  d_L_mix : DefIn K mg "_law_mix" s_L_mix ["_law_cell", "_law_turn"]
  d_L_pick : DefIn K mg "_law_pick" s_L_pick ["_law_draw_here", "_law_many"]
  d_L_sign : DefIn K mg "_law_sign" s_L_sign ["_law_draw_here"]
  d_L_round : DefIn K mg "_law_round" s_L_round ["_law_draw_here", "_law_most"]
  d_L_bent : DefIn K mg "_law_bent" s_L_bent ["_law_draw_here", "_law_row"]
  d_L_letter : DefIn K mg "_law_letter" s_L_letter ["_law_draw_here", "_law_used"]
  d_L_talk : DefIn K mg "_law_talk" s_L_talk ["_law_draw_here", "_law_many", "_law_most"]
  d_L_formed : DefIn K mg "_law_formed" s_L_formed ["_law_draw_here", "_law_pairs"]
  d_L_odd_round : DefIn K mg "_law_odd_round" s_L_odd_round ["_law_draw_here"]
  d_L_odd_signal : DefIn K mg "_law_odd_signal" s_L_odd_signal ["_law_draw_here", "_law_pairs"]
  d_L_odd_signals : DefIn K mg "_law_odd_signals" s_L_odd_signals ["_law_draw_here", "_law_pairs"]
  d_L_wrong_sign : DefIn K mg "_law_wrong_sign" s_L_wrong_sign ["_law_row", "_law_most"]
  d_L_wrong_signal : DefIn K mg "_law_wrong_signal" s_L_wrong_signal ["_law_told"]
  d_L_made : DefIn K mg "_law_made" s_L_made ["_law_plain", "_law_told"]
  d_L_is_refused_well : DefIn K mg "_law_is_refused_well" s_L_is_refused_well ["_law_draw_here", "_law_plain", "_law_pairs"]
  d_L_message : DefIn K mg "_law_message" s_L_message ["_law_draw_here", "_law_names"]
  d_L_row_due : DefIn K mg "_law_row_due" s_L_row_due ["_law_plain", "_law_pairs", "_law_message_here"]
  d_L_row_told : DefIn K mg "_law_row_told" s_L_row_told ["_law_signals", "_law_message_here"]
  d_L_is_told : DefIn K mg "_law_is_told" s_L_is_told ["_law_signals", "_law_plain", "_law_pairs"]
  d_L_spoil : DefIn K mg "_law_spoil" s_L_spoil ["_law_told"]
  d_L_asked : DefIn K mg "_law_asked" s_L_asked ["_law_draw_here"]
  d_law : DefIn K mg "law" s_law ["_law_script"]
  b_abs : mg "abs" = none
  b_enumerate : mg "enumerate" = none
  b_int : mg "int" = none
  b_isinstance : mg "isinstance" = none
  b_iter : mg "iter" = none
  b_len : mg "len" = none
  b_list : mg "list" = none
  b_range : mg "range" = none
  b_repr : mg "repr" = none
  b_str : mg "str" = none
  b_sum : mg "sum" = none
  b_tuple : mg "tuple" = none
  g_SIGNS : ∃ t, mg "SIGNS" = some (.str ⟨([46, 103, 114, 119] : List Nat).toArray⟩ t)
  g_LETTERS : ∃ t, mg "LETTERS" = some (.str ⟨([97, 98, 99, 100, 101, 102, 103, 104, 105, 106, 107, 108, 109, 110, 111, 112, 113, 114, 115, 116, 117, 118, 119, 120, 121, 122] : List Nat).toArray⟩ t)
  g_MOST_LEVELS : ∃ t, mg "MOST_LEVELS" = some (.int (70) t)
  g_MOST_ROUND : ∃ t, mg "MOST_ROUND" = some (.int (24) t)
  g_PLAIN : ∃ t, mg "PLAIN" = some (.str ⟨([48] : List Nat).toArray⟩ t)
  g_MOST_SIGNALS : ∃ t, mg "MOST_SIGNALS" = some (.int (4) t)
  g_MOST_WORD : ∃ t, mg "MOST_WORD" = some (.int (12) t)
  g_MOST_PIECES : ∃ t, mg "MOST_PIECES" = some (.int (100) t)
  c_GlimError : mg "GlimError" = some (.ref C_GlimError)
  c_BadRow : mg "BadRow" = some (.ref C_BadRow)
  c_BadRound : mg "BadRound" = some (.ref C_BadRound)
  c_BadSignal : mg "BadSignal" = some (.ref C_BadSignal)
  c_BadMessage : mg "BadMessage" = some (.ref C_BadMessage)
  c_Signals : mg "Signals" = some (.ref C_Signals)
  q_dt_Signals___init__ : ∃ o, K.lookup C_dt_Signals___init__ = some o ∧ o.cls = .type "tuple" ∧ ∀ H : Hp, SqT K H C_dt_Signals___init__ []
  cl_Signals : Cls K C_Signals
  ic_Signals : InsC K C_Signals
  nt_Signals : PySem.W.notFirst K C_Signals (.type "tuple") = true
  st_Signals : PySem.W.subIn K (.ref C_Signals) (.type "tuple") = some false
  na_Signals_plain : NoAttr K C_Signals "plain"
  na_Signals_signals : NoAttr K C_Signals "signals"
  na_Signals_spelled : NoAttr K C_Signals "spelled"
  o_BadRow : OexC K C_BadRow
  nf_BadRow_number : PySem.W.findIn K (.ref C_BadRow) "number" = some none
  i_BadRow : ∃ fI fd, PySem.W.findIn K (.ref C_BadRow) "__init__" = some (some (.ref fI)) ∧ PySem.W.typeIn K (.ref fI) = some (.type "function") ∧ Fun K "__init__" "BadRow.__init__" s_BadRow fI fd ∧ Binds K fd ["self", "number"] []
  e_BadRow : ExcD K C_BadRow
  o_BadRound : OexC K C_BadRound
  nf_BadRound_number : PySem.W.findIn K (.ref C_BadRound) "number" = some none
  i_BadRound : ∃ fI fd, PySem.W.findIn K (.ref C_BadRound) "__init__" = some (some (.ref fI)) ∧ PySem.W.typeIn K (.ref fI) = some (.type "function") ∧ Fun K "__init__" "BadRound.__init__" s_BadRound fI fd ∧ Binds K fd ["self", "number"] []
  e_BadRound : ExcD K C_BadRound
  o_BadSignal : OexC K C_BadSignal
  nf_BadSignal_number : PySem.W.findIn K (.ref C_BadSignal) "number" = some none
  i_BadSignal : ∃ fI fd, PySem.W.findIn K (.ref C_BadSignal) "__init__" = some (some (.ref fI)) ∧ PySem.W.typeIn K (.ref fI) = some (.type "function") ∧ Fun K "__init__" "BadSignal.__init__" s_BadSignal fI fd ∧ Binds K fd ["self", "number"] []
  e_BadSignal : ExcD K C_BadSignal
  o_BadMessage : OexC K C_BadMessage
  nf_BadMessage_number : PySem.W.findIn K (.ref C_BadMessage) "number" = some none
  i_BadMessage : ∃ fI fd, PySem.W.findIn K (.ref C_BadMessage) "__init__" = some (some (.ref fI)) ∧ PySem.W.typeIn K (.ref fI) = some (.type "function") ∧ Fun K "__init__" "BadMessage.__init__" s_BadMessage fI fd ∧ Binds K fd ["self", "number"] []
  e_BadMessage : ExcD K C_BadMessage
  k_Signals_Signals : PySem.W.kitOne K (.ref C_Signals) (.ref C_Signals) = some true
  k_tuple_Signals : PySem.W.kitOne K (.type "tuple") (.ref C_Signals) = some false
  k_str_Signals : PySem.W.kitOne K (.type "str") (.ref C_Signals) = some false
  k_int_Signals : PySem.W.kitOne K (.type "int") (.ref C_Signals) = some false
  k_list_Signals : PySem.W.kitOne K (.type "list") (.ref C_Signals) = some false
  k_BadRound_BadRound : PySem.W.kitOne K (.ref C_BadRound) (.ref C_BadRound) = some true
  k_BadRound_BadSignal : PySem.W.kitOne K (.ref C_BadRound) (.ref C_BadSignal) = some false
  k_BadRound_BadRow : PySem.W.kitOne K (.ref C_BadRound) (.ref C_BadRow) = some false
  k_BadRound_BadMessage : PySem.W.kitOne K (.ref C_BadRound) (.ref C_BadMessage) = some false
  k_BadSignal_BadRound : PySem.W.kitOne K (.ref C_BadSignal) (.ref C_BadRound) = some false
  k_BadSignal_BadSignal : PySem.W.kitOne K (.ref C_BadSignal) (.ref C_BadSignal) = some true
  k_BadSignal_BadRow : PySem.W.kitOne K (.ref C_BadSignal) (.ref C_BadRow) = some false
  k_BadSignal_BadMessage : PySem.W.kitOne K (.ref C_BadSignal) (.ref C_BadMessage) = some false
  k_BadMessage_BadMessage : PySem.W.kitOne K (.ref C_BadMessage) (.ref C_BadMessage) = some true
  k_BadMessage_BadSignal : PySem.W.kitOne K (.ref C_BadMessage) (.ref C_BadSignal) = some false
  k_BadMessage_BadRow : PySem.W.kitOne K (.ref C_BadMessage) (.ref C_BadRow) = some false
  m_BadRound_GlimError : PySem.W.exmOne K (.ref C_BadRound) (.ref C_GlimError) = some true
  m_BadSignal_GlimError : PySem.W.exmOne K (.ref C_BadSignal) (.ref C_GlimError) = some true
  m_BadMessage_GlimError : PySem.W.exmOne K (.ref C_BadMessage) (.ref C_GlimError) = some true
section
variable {P : Program} {w : World} {K : PySem.W.Frag} {mg : Str → Option Value} {base : Heap} {C_GlimError C_BadRow C_BadRound C_BadSignal C_BadMessage C_Signals C_dt_Signals___init__ : Addr}
theorem okx_BadRow (T : Txt K mg C_GlimError C_BadRow C_BadRound C_BadSignal C_BadMessage C_Signals C_dt_Signals___init__) : OKx P w K mg base "BadRow" "number" C_BadRow := by
  obtain ⟨fI, fd, h1, h2, F, hb⟩ := T.i_BadRow
  exact ⟨T.c_BadRow, T.o_BadRow, T.nf_BadRow_number, fI, fd, h1, h2, ini_ok F sc_BadRow T.o_BadRow T.nf_BadRow_number (fun cdv A outer s H E => (pss_one (ps_ost (pv 0) (pv 1)))), hb⟩
theorem okx_BadRound (T : Txt K mg C_GlimError C_BadRow C_BadRound C_BadSignal C_BadMessage C_Signals C_dt_Signals___init__) : OKx P w K mg base "BadRound" "number" C_BadRound := by
  obtain ⟨fI, fd, h1, h2, F, hb⟩ := T.i_BadRound
  exact ⟨T.c_BadRound, T.o_BadRound, T.nf_BadRound_number, fI, fd, h1, h2, ini_ok F sc_BadRound T.o_BadRound T.nf_BadRound_number (fun cdv A outer s H E => (pss_one (ps_ost (pv 0) (pv 1)))), hb⟩
theorem okx_BadSignal (T : Txt K mg C_GlimError C_BadRow C_BadRound C_BadSignal C_BadMessage C_Signals C_dt_Signals___init__) : OKx P w K mg base "BadSignal" "number" C_BadSignal := by
  obtain ⟨fI, fd, h1, h2, F, hb⟩ := T.i_BadSignal
  exact ⟨T.c_BadSignal, T.o_BadSignal, T.nf_BadSignal_number, fI, fd, h1, h2, ini_ok F sc_BadSignal T.o_BadSignal T.nf_BadSignal_number (fun cdv A outer s H E => (pss_one (ps_ost (pv 0) (pv 1)))), hb⟩
theorem okx_BadMessage (T : Txt K mg C_GlimError C_BadRow C_BadRound C_BadSignal C_BadMessage C_Signals C_dt_Signals___init__) : OKx P w K mg base "BadMessage" "number" C_BadMessage := by
  obtain ⟨fI, fd, h1, h2, F, hb⟩ := T.i_BadMessage
  exact ⟨T.c_BadMessage, T.o_BadMessage, T.nf_BadMessage_number, fI, fd, h1, h2, ini_ok F sc_BadMessage T.o_BadMessage T.nf_BadMessage_number (fun cdv A outer s H E => (pss_one (ps_ost (pv 0) (pv 1)))), hb⟩
end
end K75
namespace K75
open PySem PySem.Spec PyProof.Rows L2 Fg
local macro_rules | `(tactic| walk_at "sq") => `(tactic| first
  | assumption
  | exact .inl (.inl (by assumption))
  | exact .inl (.inl upd_same))
local macro_rules | `(tactic| walk_at "st") => `(tactic| first
  | assumption
  | exact .inl (.inl (by assumption))
  | exact .inl (.inl upd_same))
local macro_rules | `(tactic| walk_at "o") => `(tactic| first
  | omega
  | assumption
  | (simp only [List.length_append, List.length_take, List.length_drop, List.length_cons, List.length_nil, List.length_singleton, List.length_map, List.length_range, Int.toNat_natCast] ; omega))
local macro_rules | `(tactic| walk_at "s") => `(tactic| first
  | (with_reducible refine i_seq ?_)
  | (with_reducible refine i_asg ?_)
  | ((with_reducible refine' i_var ?h1 ?_); (case h1 => rfl))
  | (with_reducible refine i_c ?_)
  | ((with_reducible refine' i_gname' ?h1 ?_); (case h1 => (simp only [List.set_cons_zero, List.set_cons_succ]; rfl)))
  | (with_reducible refine i_op ?_)
  | (with_reducible refine i_ifS ?_)
  | (with_reducible refine i_for ?_)
  | (with_reducible refine i_test ?_)
  | (with_reducible refine i_B ?_)
  | (with_reducible refine i_exbl ?_)
  | (with_reducible refine i_exint ?_)
  | (with_reducible refine i_cb ?_)
  | (with_reducible refine i_nil ?_)
  | (with_reducible refine i_cons ?_)
  | (with_reducible refine i_ret ?_)
  | (with_reducible refine i_sl ?_)
  | (with_reducible refine i_nopart ?_)
  | (with_reducible refine i_part ?_)
  | (with_reducible refine i_add_int ?_)
  | (with_reducible refine i_sub ?_)
  | (with_reducible refine i_lt ?_)
  | ((with_reducible refine' i_mod ?h1 ?_); (case h1 => walk_at "o"))
  | ((with_reducible refine' i_fdiv ?h1 ?_); (case h1 => (refine cdiv_small ?_ ?_ <;> walk_at "o")))
  | ((with_reducible refine' i_sl_to ?h1 ?h2 ?_); (case h1 => walk_at "o"); (case h2 => walk_at "o"))
  | ((with_reducible refine' i_sl_from ?h1 ?h2 ?_); (case h1 => walk_at "o"); (case h2 => walk_at "o"))
  | ((with_reducible refine' i_add_str ?h1 ?_); (case h1 => walk_at "o"))
  | ((with_reducible refine' i_mul_int ?h1 ?_); (case h1 => first | (refine mul_small ?_ ?_ <;> walk_at "o") | (refine mul_smallR ?_ ?_ <;> walk_at "o")))
  | (with_reducible refine i_le ?_)
  | (with_reducible refine i_gt ?_)
  | (with_reducible refine i_ge ?_)
  | (with_reducible refine i_eq_int ?_)
  | (with_reducible refine i_eq_str ?_)
  | (with_reducible refine i_ne_int ?_)
  | (with_reducible refine i_ne_str ?_)
  | (with_reducible refine i_eq_bl ?_)
  | (with_reducible refine i_ne_bl ?_)
  | (with_reducible refine i_in_sg ?_)
  | (with_reducible refine i_notIn_sg ?_)
  | (with_reducible refine i_call ?_)
  | (with_reducible refine i_callS ?_)
  | (with_reducible refine i_sp1 ?_)
  | (with_reducible refine i_sp2 ?_)
  | (with_reducible refine i_sp3 ?_)
  | (with_reducible refine i_sp4 ?_)
  | (with_reducible refine i_sp1' ?_)
  | (with_reducible refine i_sp2' ?_)
  | (with_reducible refine i_sp3' ?_)
  | ((with_reducible refine' i_ix_lst ?h1 ?h2 ?_); (case h1 => walk_at "sq"); (case h2 => first | exact atI_nat rfl | rfl))
  | ((with_reducible refine' i_ix_tup ?h1 ?h2 ?_); (case h1 => walk_at "st"); (case h2 => first | exact atI_nat rfl | rfl))
  | (with_reducible refine i_gsub ?_)
  | (with_reducible refine i_par ?_)
  | (with_reducible refine i_lstRg1 ?_)
  | (with_reducible refine i_app ?_)
  | (with_reducible refine i_par2 ?_)
  | ((with_reducible refine' i_aug ?h1 ?_); (case h1 => rfl))
  | (with_reducible refine i_ipI ?_)
  | ((with_reducible refine' i_gtup2 ?h1 ?_); (case h1 => walk_at "st"))
  | (with_reducible refine i_int_bl ?_)
  | (with_reducible refine i_raise ?_)
  | (with_reducible refine i_mkE ?_)
  | (with_reducible refine i_ex1 ?_)
  | (with_reducible refine i_and ?_)
  | (with_reducible refine i_or ?_)
  | (with_reducible refine i_not ?_)
  | (with_reducible refine i_tt ?_)
  | (with_reducible refine i_ff ?_)
  | (with_reducible refine i_nott ?_)
  | (with_reducible refine i_notf ?_)
  | (with_reducible refine i_andV ?_)
  | (with_reducible refine i_orV ?_)
  | (with_reducible refine i_notV ?_)
  | (with_reducible refine i_ifE ?_)
  | (with_reducible refine i_tup ?_)
  | (with_reducible refine i_lst ?_)
  | (with_reducible refine i_un ?_)
  | (with_reducible refine i_neg ?_)
  | (with_reducible refine i_chain ?_)
  | (with_reducible refine i_next ?_)
  | (with_reducible refine i_retN ?_)
  | (with_reducible refine i_drop ?_)
  | (with_reducible refine i_int_int ?_)
  | (with_reducible refine i_abs ?_)
  | (with_reducible refine i_m1c ?_)
  | (with_reducible refine i_is_non ?_)
  | (with_reducible refine i_is_int ?_)
  | (with_reducible refine i_is_bl ?_)
  | (with_reducible refine i_isn_bl ?_)
  | (with_reducible refine i_is_str ?_)
  | (with_reducible refine i_is_ref ?_)
  | (with_reducible refine i_isn_non ?_)
  | (with_reducible refine i_isn_int ?_)
  | (with_reducible refine i_isn_str ?_)
  | (with_reducible refine i_isn_ref ?_)
  | (with_reducible refine i_len_str ?h1 ?_; (case h1 => walk_at "o"))
  | (with_reducible refine i_callD ?_)
  | (with_reducible refine i_spD2 ?_)
  | (with_reducible refine i_spM1 ?_)
  | (with_reducible refine i_spM2 ?_)
  | (with_reducible refine i_spM3 ?_)
  | (with_reducible refine i_spM4 ?_)
  | (with_reducible refine i_spM3d ?_)
  | (with_reducible refine i_tfld ?_)
  | (with_reducible refine i_sfld ?_)
  | (with_reducible refine i_meth ?_)
  | (with_reducible refine i_make ?_)
  | (with_reducible refine i_spl ?_)
  | (with_reducible refine i_mkE2 ?_)
  | (with_reducible refine i_ex2 ?_)
  | (with_reducible refine i_dget ?_)
  | (with_reducible refine i_tru ?_)
  | (with_reducible refine i_dput ?_)
  | (with_reducible refine i_dnotin ?_)
  | (with_reducible refine i_din ?_)
  | (with_reducible refine i_rev ?_)
  | (with_reducible refine i_isi_int_int ?_) | (with_reducible refine i_isi_int_bool ?_) | (with_reducible refine i_isi_int_str ?_) | (with_reducible refine i_isi_int_tuple ?_) | (with_reducible refine i_isi_int_list ?_)
  | (with_reducible refine i_isi_bl_int ?_) | (with_reducible refine i_isi_bl_bool ?_) | (with_reducible refine i_isi_bl_str ?_) | (with_reducible refine i_isi_bl_tuple ?_) | (with_reducible refine i_isi_bl_list ?_)
  | (with_reducible refine i_isi_str_int ?_) | (with_reducible refine i_isi_str_bool ?_) | (with_reducible refine i_isi_str_str ?_) | (with_reducible refine i_isi_str_tuple ?_) | (with_reducible refine i_isi_str_list ?_)
  | (with_reducible refine i_isi_non_int ?_) | (with_reducible refine i_isi_non_bool ?_) | (with_reducible refine i_isi_non_str ?_) | (with_reducible refine i_isi_non_tuple ?_) | (with_reducible refine i_isi_non_list ?_))
local macro_rules | `(tactic| walk_at "go") => `(tactic| (repeat' (walk_at "s")))
local macro_rules | `(tactic| walk_at "n") => `(tactic| simp only [wipe, List.map_cons, List.map_nil, List.set_cons_zero, List.set_cons_succ])
/-! ### draws: the list at a holds a place in the script's cells (at c) and what is left of a great one -/
structure Dd where
  a : Addr
  c : Addr
  ns : List Int
/-- H0: what is known besides -/
def Dr (K : PySem.W.Frag) (d : Dd) (H0 H : Hp) : Prop := Same H0 H ∧ H0 d.a = none ∧ SqL K H0 d.c (d.ns.map V.int) ∧ d.ns.length ≤ 100 ∧ ∃ p b u x s : Int, H d.a = some (.lst [.ref d.c, .int p, .int b, .int u, .int x, .int s]) ∧ 0 ≤ p
section
variable {K : PySem.W.Frag} {d : Dd} {H0 H H' H1 : Hp} {q : Addr} {o o' : HO}
theorem Dr.same (h : Dr K d H0 H) (s : Same H H') : Dr K d H0 H' := by
  obtain ⟨s0, n0, hc, hl, p, b, u, x, sd, ha, hp⟩ := h
  exact ⟨s0.trans s, n0, hc, hl, p, b, u, x, sd, s _ _ ha, hp⟩
theorem Dr.new (h : Dr K d H0 H) (n : H q = none) : Dr K d (upd H0 q o) (upd H q o) := by
  obtain ⟨s0, n0, hc, hl, p, b, u, x, sd, ha, hp⟩ := h
  have nq : d.a ≠ q := ne_of_none ha n
  have s1 : Same H0 (upd H0 q o) := same_upd (s0.free n)
  refine ⟨fun b' o' e => ?_, by rw [upd_ne nq]; exact n0, s1.seq hc, hl, p, b, u, x, sd, by rw [upd_ne nq]; exact ha, hp⟩
  by_cases hb : b' = q
  · rw [hb, upd_same] at e
    rw [hb, upd_same]; exact e
  · rw [upd_ne hb] at e
    rw [upd_ne hb]; exact s0 _ _ e
/-- an object that is known changes -/
theorem Dr.put (h : Dr K d (upd H0 q o) H) (hc : SqL K H0 d.c (d.ns.map V.int)) (n : H0 q = none) : Dr K d (upd H0 q o') (upd H q o') := by
  obtain ⟨s0, n0, _, hl, p, b, u, x, sd, ha, hp⟩ := h
  have nq : d.a ≠ q := fun z => by rw [z, upd_same] at n0; cases n0
  have s1 : Same H0 (upd H0 q o') := same_upd n
  rw [upd_ne nq] at n0
  refine ⟨fun b' o' e => ?_, by rw [upd_ne nq]; exact n0, s1.seq hc, hl, p, b, u, x, sd, by rw [upd_ne nq]; exact ha, hp⟩
  by_cases hb : b' = q
  · rw [hb, upd_same] at e
    rw [hb, upd_same]; exact e
  · rw [upd_ne hb] at e
    rw [upd_ne hb]; exact s0 _ _ (by rw [upd_ne hb]; exact e)
/-- more, or less, is known -/
theorem Dr.know (h : Dr K d H0 H) (s0 : Same H0 H1) (s1 : Same H1 H) (n : H1 d.a = none) : Dr K d H1 H := by
  obtain ⟨_, n0, hc, hl, p, b, u, x, sd, ha, hp⟩ := h
  exact ⟨s1, n, s0.seq hc, hl, p, b, u, x, sd, ha, hp⟩
theorem Dr.less (h : Dr K d (upd H0 q o) H) (hc : SqL K H0 d.c (d.ns.map V.int)) (n : H0 q = none) : Dr K d H0 H := by
  obtain ⟨s0, n0, _, hl, p, b, u, x, sd, ha, hp⟩ := h
  have nq : d.a ≠ q := fun z => by rw [z, upd_same] at n0; cases n0
  rw [upd_ne nq] at n0
  exact ⟨(same_upd n).trans s0, n0, hc, hl, p, b, u, x, sd, ha, hp⟩
theorem Dr.old (h : Dr K d H0 H) (e : H0 q = some o) : H q = some o := h.1 _ _ e
theorem Dr.cells (h : Dr K d H0 H) : SqL K H0 d.c (d.ns.map V.int) := h.2.2.1
theorem Dr.free (h : Dr K d H0 H) (n : H q = none) : H0 q = none := h.1.free n
/-- what a call that leaves all as it was hands back new -/
theorem Dr.got (h : Dr K d H0 H) (n : H q = none) (s : Same H H') (e : H' q = some o) : Dr K d (upd H0 q o) H' := by
  obtain ⟨s0, n0, hc, hl, p, b, u, x, sd, ha, hp⟩ := h
  have nq : d.a ≠ q := ne_of_none ha n
  have s1 : Same H0 (upd H0 q o) := same_upd (s0.free n)
  refine ⟨fun b' o' e' => ?_, by rw [upd_ne nq]; exact n0, s1.seq hc, hl, p, b, u, x, sd, s _ _ ha, hp⟩
  by_cases hb : b' = q
  · rw [hb, upd_same] at e'
    rw [hb, e]; exact e'
  · rw [upd_ne hb] at e'
    exact s _ _ (s0 _ _ e')
end
theorem range_getD (xs : List V) : (List.range xs.length).map (fun i => xs.getD i .non) = xs := by
  refine List.ext_getElem? fun i => ?_
  rw [List.getElem?_map]
  by_cases h : i < xs.length
  · rw [List.getElem?_range h, Option.map_some, List.getD_eq_getElem?_getD, List.getElem?_eq_getElem h]
    rfl
  · rw [List.getElem?_eq_none (by simpa using h), List.getElem?_eq_none (by omega)]
    rfl
def Btw (n many : Int) : Prop := 0 ≤ n ∧ (2 ≤ many → n < many) ∧ (many < 2 → n = 0)
section
variable {P : Program} {w : World} {K : PySem.W.Frag} {mg : Str → Option Value} {base : Heap} {C_GlimError C_BadRow C_BadRound C_BadSignal C_BadMessage C_Signals C_dt_Signals___init__ : Addr}
def p_L_draw (K : PySem.W.Frag) : P1 := fun v H Q _ => ∃ (a0 : Addr) (ns : List Int), v = .ref a0 ∧ SqL K H a0 (ns.map V.int) ∧ ns.length ≤ 100 ∧ ∀ H0 d H', Same H H0 → Dr K d H0 H' → Q (.ref d.a) H'
theorem ok_L_draw (T : Txt K mg C_GlimError C_BadRow C_BadRound C_BadSignal C_BadMessage C_Signals C_dt_Signals___init__) : OK P w K mg base CX0 1 "_law_draw" ["_law_script"] (sp1  (p_L_draw K)) := by
  refine OK.mk (k := 0) T.d_L_draw sc_L_draw len1 fun f cdv A outer s H vs Q E hr h => ?_
  obtain ⟨x, rfl, h⟩ := h
  refine ⟨_, (pss_cons (ps_setLc (i := 1) (own := [("_law_cell", 2)]) (g := gName 2) (tt := tYes) (by rfl) sc_L_draw.nd rfl rfl (sw_true rfl rfl rfl (by decide +kernel)) (piAny K (pv 0)) (blkOk_by (own := [("_law_cell", 2)]) (N := ["_law_script", "_law_cells", "_law_cell"]) (sc := (defScope s_L_draw)) (by decide +kernel)) (fun _ _ _ _ _ => (pg_name (i := 2) sc_L_draw.nd rfl (Or.inl rfl))) (fun _ _ _ _ _ => pts_nil) (fun _ _ _ _ _ => (pv 2))) (pss_one (ps_ret (pe_lst (pa_cons (pv 1) (pa_cons pe_int (pa_cons pe_int (pa_cons pe_int (pa_cons pe_int (pa_cons (pe_op (opAdd K) (pe_op op_modP (pe_callTy call_intP (by rfl) T.b_int (by decide +kernel) (pa_cons (pe_callB (cSum K rfl) (by rfl) T.b_sum (by decide +kernel) (pa_cons (pv 1) pa_nil)) pa_nil)) pe_int) (pe_op op_mulP pe_int (pe_callB (cLen K) (by rfl) T.b_len (by decide +kernel) (pa_cons (pv 1) pa_nil)))) pa_nil)))))))))), ?_⟩
  show (_ : TS) { nx := fun _ H' => Q .non H', rt := Q } [some x, none, none] H
  obtain ⟨a0, ns, rfl, hS, hl, q⟩ := h
  walk_at "go"
  refine c_lst (xs := ns.map V.int) (fun R k => by walk_at "go"; exact k) hS (by rw [List.length_map]; omega) (fun _ => true) (fun i => (ns.map V.int).getD i .non) (fun _ => rfl) (fun i v H2 hi s2 QB k => k H2 (Same.refl H2)) (fun i v H2 hi s2 _ QV k => ?_) (fun Dl H2 n2 s2 d2 => ?_)
  · show (_ : TE) [some (.ref a0), none, some v] H2 QV
    walk_at "go"
    have e : v = (ns.map V.int).getD i .non := by rw [List.getD_eq_getElem?_getD, hi]; rfl
    rw [e]
    exact k H2 (Same.refl H2)
  · rw [kept_all, range_getD] at d2
    walk_at "go"
    refine i_sum (ns := ns) (.inl (.inl d2)) ?_
    walk_at "go"
    refine i_len_lst (.inl (.inl d2)) ?_
    walk_at "go"
    refine i_new (by show 6 ≤ 100000; omega) fun a na => ?_
    walk_at "go"
    exact q H2 ⟨a, Dl, ns⟩ _ s2 ⟨same_upd na, na, .inl (.inl d2), hl, _, _, _, _, _, upd_same, Int.le_refl _⟩
def p_L_mix : P2 := fun x y H Q _ => ∃ a b : Int, x = .int a ∧ y = .int b ∧ ∀ r : Int, Q (.int r) H
theorem ok_L_mix (T : Txt K mg C_GlimError C_BadRow C_BadRound C_BadSignal C_BadMessage C_Signals C_dt_Signals___init__) : OK P w K mg base CX0 1 "_law_mix" ["_law_cell", "_law_turn"] (sp2  p_L_mix) := by
  refine OK.mk (k := 0) T.d_L_mix sc_L_mix len2 fun f cdv A outer s H vs Q E hr h => ?_
  obtain ⟨x, y, rfl, h⟩ := h
  refine ⟨_, (pss_cons (ps_set (i := 2) sc_L_mix.nd rfl (Or.inl rfl) (pe_op op_modP (pe_callTy call_intP (by rfl) T.b_int (by decide +kernel) (pa_cons (pe_op (opAdd K) (pe_op (opAdd K) (pe_op op_mulP (pv 0) pe_int) (pe_op op_mulP (pv 1) pe_int)) pe_int) pa_nil)) pe_int)) (pss_cons (ps_set (i := 3) sc_L_mix.nd rfl (Or.inl rfl) (pe_op op_modP (pe_callTy call_intP (by rfl) T.b_int (by decide +kernel) (pa_cons (pe_op (opAdd K) (pe_op (opAdd K) (pe_op op_mulP (pv 2) (pv 2)) (pe_op op_mulP (pv 1) pe_int)) (pv 0)) pa_nil)) pe_int)) (pss_cons (ps_set (i := 3) sc_L_mix.nd rfl (Or.inl rfl) (pe_op op_modP (pe_callTy call_intP (by rfl) T.b_int (by decide +kernel) (pa_cons (pe_op (opAdd K) (pe_op op_mulP (pv 3) (pv 3)) (pv 2)) pa_nil)) pe_int)) (pss_one (ps_ret (pe_op op_fdivP (pv 3) pe_int)))))), ?_⟩
  show (_ : TS) { nx := fun _ H' => Q .non H', rt := Q } [some x, some y, none, none] H
  obtain ⟨c, t, rfl, rfl, q⟩ := h
  walk_at "go"
  have h1 : 0 ≤ (c * 48271 + t * 69621 + 12345) % 2147483647 := Int.emod_nonneg _ (by decide)
  have h2 : (c * 48271 + t * 69621 + 12345) % 2147483647 < 2147483647 := Int.emod_lt_of_pos _ (by decide)
  generalize (c * 48271 + t * 69621 + 12345) % 2147483647 = o at *
  walk_at "go"
  have h3 : 0 ≤ (o * o + t * 7919 + c) % 998244353 := Int.emod_nonneg _ (by decide)
  have h4 : (o * o + t * 7919 + c) % 998244353 < 998244353 := Int.emod_lt_of_pos _ (by decide)
  generalize (o * o + t * 7919 + c) % 998244353 = o2 at *
  walk_at "go"
  exact q _
/-- a number from 0 to less than so many; the draws go on -/
def p_L_pick (K : PySem.W.Frag) : P2 := fun x y H Q _ => ∃ (H0 : Hp) (d : Dd) (many : Int), x = .ref d.a ∧ y = .int many ∧ Dr K d H0 H ∧ many ≤ 10000000000000000000000000000000000000000 ∧ ∀ (n : Int) H', Dr K d H0 H' → Btw n many → Q (.int n) H'
theorem wide_many {b many : Int} (h : 0 < many) (h2 : many ≤ 10000000000000000000000000000000000000000) : CDivW b many := by
  refine wide_div (b := 140) h ?_ (by decide) (by decide)
  have e : (2 : Nat) ^ 140 = 1393796574908163946345982392040522594123776 := by decide +kernel
  rw [e]
  omega
theorem ok_L_pick (T : Txt K mg C_GlimError C_BadRow C_BadRound C_BadSignal C_BadMessage C_Signals C_dt_Signals___init__) : OK P w K mg base CX0 2 "_law_pick" ["_law_draw_here", "_law_many"] (sp2  (p_L_pick K)) := by
  refine OK.mk (k := 1) T.d_L_pick sc_L_pick len2 fun f cdv A outer s H vs Q E hr h => ?_
  obtain ⟨x, y, rfl, h⟩ := h
  refine ⟨_, (pss_cons (ps_if (pt_cmpR op_ltP (pv 1) pe_int (nomark _)) (pss_one (ps_ret pe_int)) pss_nil) (Evl.pss_cut (ps_if (pw_and (pt_cmpR (opEq K hr.units) (pe_ix (ixK K) (pv 0) pe_int (fun _ _ => rfl)) pe_int (nomark _)) (pw_and (pt_cmpR op_ltP (pe_ix (ixK K) (pv 0) pe_int (fun _ _ => rfl)) (pe_callB (cLen K) (by rfl) T.b_len (by decide +kernel) (pa_cons (pe_ix (ixK K) (pv 0) pe_int (fun _ _ => rfl)) pa_nil)) (nomark _)) (pw_and1 (pt_cmpR (opEq K hr.units) (pe_ix (ixK K) (pv 0) pe_int (fun _ _ => rfl)) pe_int (nomark _))))).pt (pss_cons (ps_set (i := 2) sc_L_pick.nd rfl (Or.inl rfl) (pe_ix (ixK K) (pe_ix (ixK K) (pv 0) pe_int (fun _ _ => rfl)) (pe_ix (ixK K) (pv 0) pe_int (fun _ _ => rfl)) (fun _ _ => rfl))) (pss_one (ps_if (pw_or (pt_cmpR op_geP (pv 2) (pe_op op_powP pe_int pe_int) (nomark _)) (pw_or1 (pt_cmpR op_leP (pv 2) (pe_un un_neg (pe_op op_powP pe_int pe_int)) (nomark _)))).pt (pss_cons (ps_asg (pe_op op_modP (pe_callTy call_intP (by rfl) T.b_int (by decide +kernel) (pa_cons (pe_callB call_absP (by rfl) T.b_abs (by decide +kernel) (pa_cons (pv 2) pa_nil)) pa_nil)) (pe_op op_powP (pe_op op_powP pe_int pe_int) pe_int)) (pg_sub (pv 0) pe_int set_list)) (pss_one (ps_asg (pe_op (opAdd K) (pe_ix (ixK K) (pv 0) pe_int (fun _ _ => rfl)) pe_int) (pg_sub (pv 0) pe_int set_list)))) pss_nil))) pss_nil) (pss_cons (ps_if (pt_cmpR op_gtP (pe_ix (ixK K) (pv 0) pe_int (fun _ _ => rfl)) pe_int (nomark _)) (pss_cons (ps_set (i := 3) sc_L_pick.nd rfl (Or.inl rfl) (pe_op op_modP (pe_callTy call_intP (by rfl) T.b_int (by decide +kernel) (pa_cons (pe_ix (ixK K) (pv 0) pe_int (fun _ _ => rfl)) pa_nil)) (pv 1))) (pss_cons (ps_asg (pe_op op_fdivP (pe_ix (ixK K) (pv 0) pe_int (fun _ _ => rfl)) (pv 1)) (pg_sub (pv 0) pe_int set_list)) (pss_one (ps_ret (pv 3))))) pss_nil) (pss_cons (ps_if (pt_cmpR op_ltP (pe_ix (ixK K) (pv 0) pe_int (fun _ _ => rfl)) (pe_callB (cLen K) (by rfl) T.b_len (by decide +kernel) (pa_cons (pe_ix (ixK K) (pv 0) pe_int (fun _ _ => rfl)) pa_nil)) (nomark _)) (pss_cons (ps_set (i := 2) sc_L_pick.nd rfl (Or.inl rfl) (pe_ix (ixK K) (pe_ix (ixK K) (pv 0) pe_int (fun _ _ => rfl)) (pe_ix (ixK K) (pv 0) pe_int (fun _ _ => rfl)) (fun _ _ => rfl))) (pss_cons (ps_asg (pe_op (opAdd K) (pe_ix (ixK K) (pv 0) pe_int (fun _ _ => rfl)) pe_int) (pg_sub (pv 0) pe_int set_list)) (pss_cons (ps_set (i := 4) sc_L_pick.nd rfl (Or.inl rfl) (pe_op op_modP (pe_callTy call_intP (by rfl) T.b_int (by decide +kernel) (pa_cons (pe_f (ok_L_mix (K := K) T) (hr.mono (by decide)) pass0 (pa_cons (pe_op (opAdd K) (pv 2) (pe_op op_mulP pe_int (pe_ix (ixK K) (pv 0) pe_int (fun _ _ => rfl)))) (pa_cons (pe_ix (ixK K) (pv 0) pe_int (fun _ _ => rfl)) pa_nil))) pa_nil)) (pv 1))) (Evl.pss_cut (ps_if (pt_cmpR (opEq K hr.units) (pe_ix (ixK K) (pv 0) pe_int (fun _ _ => rfl)) pe_int (nomark _)) (pss_cons (ps_asg pe_int (pg_sub (pv 0) pe_int set_list)) (pss_one (ps_asg (pe_op (opAdd K) (pe_ix (ixK K) (pv 0) pe_int (fun _ _ => rfl)) pe_int) (pg_sub (pv 0) pe_int set_list)))) pss_nil) (pss_one (ps_ret (pv 4))))))) pss_nil) (pss_cons (ps_asg (pe_op (opAdd K) (pe_ix (ixK K) (pv 0) pe_int (fun _ _ => rfl)) pe_int) (pg_sub (pv 0) pe_int set_list)) (pss_one (ps_ret (pe_op op_modP (pe_callTy call_intP (by rfl) T.b_int (by decide +kernel) (pa_cons (pe_f (ok_L_mix (K := K) T) (hr.mono (by decide)) pass0 (pa_cons (pe_ix (ixK K) (pv 0) pe_int (fun _ _ => rfl)) (pa_cons (pe_op (opAdd K) (pe_ix (ixK K) (pv 0) pe_int (fun _ _ => rfl)) pe_int) pa_nil))) pa_nil)) (pv 1))))))))), ?_⟩
  show (_ : TS) { nx := fun _ H' => Q .non H', rt := Q } [some x, some y, none, none, none] H
  obtain ⟨H0, d, many, rfl, rfl, dr, hmax, q⟩ := h
  walk_at "go"
  refine i_dec (fun e => ?_) (fun e => ?_)
  · walk_at "go"
    exact q 0 H dr ⟨Int.le_refl _, fun z => by omega, fun _ => rfl⟩
  walk_at "go"
  have hpos : 0 < many := by omega
  -- a great cell is taken up
  refine i_cut (fun σ H' => ∃ v2 v3 v4, σ = [some (.ref d.a), some (.int many), v2, v3, v4] ∧ Dr K d H0 H') ?_ ?_
  · obtain ⟨a, c, ns⟩ := d
    obtain ⟨s0, n0, hC, hl, p, b, u, x, sd, hA, hp⟩ := id dr
    dsimp only at *
    have hC' : SqL K H c (ns.map V.int) := s0.seq hC
    have skip : ∃ v2 v3 v4, ([some (.ref a), some (.int many), none, none, none] : L2.St) = [some (.ref a), some (.int many), v2, v3, v4] ∧ Dr K ⟨a, c, ns⟩ H0 H := ⟨_, _, _, rfl, dr⟩
    walk_at "go"
    refine i_dec (fun e1 => ?_) (fun e1 => skip)
    walk_at "go"
    refine i_len_lst hC' ?_
    walk_at "go"
    refine i_dec (fun e2 => ?_) (fun e2 => skip)
    walk_at "go"
    refine i_dec (fun e3 => ?_) (fun e3 => skip)
    walk_at "go"
    rw [List.length_map] at e2
    have hpl : p.toNat < ns.length := by omega
    refine i_ix_lst (v := .int ns[p.toNat]) hC' (atI_int hp (by rw [List.getElem?_map, List.getElem?_eq_getElem hpl]; rfl)) ?_
    walk_at "go"
    refine i_pow (by decide +kernel) ?_
    walk_at "go"
    have fin : ∃ v2 v3 v4, ([some (.ref a), some (.int many), some (.int ns[p.toNat]), none, none] : L2.St) = [some (.ref a), some (.int many), v2, v3, v4] ∧ Dr K ⟨a, c, ns⟩ H0 H := ⟨_, _, _, rfl, dr⟩
    refine i_dec (fun e4 => ?_) (fun e4 => ?_)
    case' refine_2 =>
      walk_at "go"
      refine i_pow (by decide +kernel) ?_
      walk_at "go"
      refine i_dec (fun e5 => ?_) (fun e5 => fin)
    all_goals
      walk_at "go"
      refine i_pow (by decide +kernel) ?_
      walk_at "go"
      refine i_pow (by decide +kernel) ?_
      walk_at "go"
      refine i_mod (by decide +kernel) ?_
      walk_at "go"
      refine i_setL 2 hA rfl rfl ?_
      walk_at "go"
      refine i_setL 1 upd_same rfl rfl ?_
      walk_at "go"
      rw [upd_upd]
      exact ⟨_, _, _, rfl, Same.upd s0 n0, n0, hC, hl, _, _, _, _, _, upd_same, by omega⟩
  · rintro σ H1 ⟨v2, v3, v4, rfl, d1⟩
    obtain ⟨a, c, ns⟩ := d
    obtain ⟨s0, n0, hC, hl, p, b, u, x, sd, hA, hp⟩ := id d1
    dsimp only at *
    have hC' : SqL K H1 c (ns.map V.int) := s0.seq hC
    have put : ∀ {p' b' u' x' s' : Int}, 0 ≤ p' → Dr K ⟨a, c, ns⟩ H0 (upd H1 a (.lst [.ref c, .int p', .int b', .int u', .int x', .int s'])) := fun h => ⟨Same.upd s0 n0, n0, hC, hl, _, _, _, _, _, upd_same, h⟩
    have btw : ∀ r : Int, Btw (r % many) many := fun r => ⟨Int.emod_nonneg _ (by omega), fun _ => Int.emod_lt_of_pos _ hpos, fun z => by omega⟩
    walk_at "go"
    refine i_dec (fun e1 => ?_) (fun e1 => ?_)
    · -- a digit of the great one
      walk_at "go"
      refine i_fdiv (wide_many hpos hmax) ?_
      walk_at "go"
      refine i_setL 2 hA rfl rfl ?_
      walk_at "go"
      exact q _ _ (put hp) (btw _)
    walk_at "go"
    refine i_len_lst hC' ?_
    walk_at "go"
    rw [List.length_map]
    refine i_dec (fun e2 => ?_) (fun e2 => ?_)
    · have hpl : p.toNat < ns.length := by omega
      walk_at "go"
      refine i_ix_lst (v := .int ns[p.toNat]) hC' (atI_int hp (by rw [List.getElem?_map, List.getElem?_eq_getElem hpl]; rfl)) ?_
      walk_at "go"
      refine i_setL 3 hA rfl rfl ?_
      walk_at "go"
      refine ⟨_, _, rfl, rfl, fun r => ?_⟩
      walk_at "go"
      refine i_cut (fun σ H' => ∃ v3, σ = [some (.ref a), some (.int many), some (.int ns[p.toNat]), v3, some (.int (r % many))] ∧ Dr K ⟨a, c, ns⟩ H0 H') ?_ ?_
      · walk_at "go"
        refine i_dec (fun e3 => ?_) (fun e3 => ⟨_, rfl, put hp⟩)
        walk_at "go"
        refine i_setL 3 upd_same rfl rfl ?_
        walk_at "go"
        refine i_setL 1 upd_same rfl rfl ?_
        walk_at "go"
        rw [upd_upd, upd_upd]
        exact ⟨_, rfl, put (by omega)⟩
      · rintro σ H2 ⟨v3, rfl, d2⟩
        walk_at "go"
        exact q _ _ d2 (btw _)
    · walk_at "go"
      refine i_setL 4 hA rfl rfl ?_
      walk_at "go"
      refine ⟨_, _, rfl, rfl, fun r => ?_⟩
      walk_at "go"
      exact q _ _ (put hp) (btw _)
end
end K75
namespace K75
open PySem PySem.Spec PyProof.Rows L2 Fg
local macro_rules | `(tactic| walk_at "sq") => `(tactic| first
  | assumption
  | exact .inl (.inl (by assumption))
  | exact .inl (.inl upd_same))
local macro_rules | `(tactic| walk_at "st") => `(tactic| first
  | assumption
  | exact .inl (.inl (by assumption))
  | exact .inl (.inl upd_same))
local macro_rules | `(tactic| walk_at "o") => `(tactic| first
  | omega
  | assumption
  | (simp only [List.length_append, List.length_take, List.length_drop, List.length_cons, List.length_nil, List.length_singleton, List.length_map, List.length_range, Int.toNat_natCast] ; omega))
local macro_rules | `(tactic| walk_at "s") => `(tactic| first
  | (with_reducible refine i_seq ?_)
  | (with_reducible refine i_asg ?_)
  | ((with_reducible refine' i_var ?h1 ?_); (case h1 => rfl))
  | (with_reducible refine i_c ?_)
  | ((with_reducible refine' i_gname' ?h1 ?_); (case h1 => (simp only [List.set_cons_zero, List.set_cons_succ]; rfl)))
  | (with_reducible refine i_op ?_)
  | (with_reducible refine i_ifS ?_)
  | (with_reducible refine i_for ?_)
  | (with_reducible refine i_test ?_)
  | (with_reducible refine i_B ?_)
  | (with_reducible refine i_exbl ?_)
  | (with_reducible refine i_exint ?_)
  | (with_reducible refine i_cb ?_)
  | (with_reducible refine i_nil ?_)
  | (with_reducible refine i_cons ?_)
  | (with_reducible refine i_ret ?_)
  | (with_reducible refine i_sl ?_)
  | (with_reducible refine i_nopart ?_)
  | (with_reducible refine i_part ?_)
  | (with_reducible refine i_add_int ?_)
  | (with_reducible refine i_sub ?_)
  | (with_reducible refine i_lt ?_)
  | ((with_reducible refine' i_mod ?h1 ?_); (case h1 => walk_at "o"))
  | ((with_reducible refine' i_fdiv ?h1 ?_); (case h1 => (refine cdiv_small ?_ ?_ <;> walk_at "o")))
  | ((with_reducible refine' i_sl_to ?h1 ?h2 ?_); (case h1 => walk_at "o"); (case h2 => walk_at "o"))
  | ((with_reducible refine' i_sl_from ?h1 ?h2 ?_); (case h1 => walk_at "o"); (case h2 => walk_at "o"))
  | ((with_reducible refine' i_add_str ?h1 ?_); (case h1 => walk_at "o"))
  | ((with_reducible refine' i_mul_int ?h1 ?_); (case h1 => first | (refine mul_small ?_ ?_ <;> walk_at "o") | (refine mul_smallR ?_ ?_ <;> walk_at "o")))
  | (with_reducible refine i_le ?_)
  | (with_reducible refine i_gt ?_)
  | (with_reducible refine i_ge ?_)
  | (with_reducible refine i_eq_int ?_)
  | (with_reducible refine i_eq_str ?_)
  | (with_reducible refine i_ne_int ?_)
  | (with_reducible refine i_ne_str ?_)
  | (with_reducible refine i_eq_bl ?_)
  | (with_reducible refine i_ne_bl ?_)
  | (with_reducible refine i_in_sg ?_)
  | (with_reducible refine i_notIn_sg ?_)
  | (with_reducible refine i_call ?_)
  | (with_reducible refine i_callS ?_)
  | (with_reducible refine i_sp1 ?_)
  | (with_reducible refine i_sp2 ?_)
  | (with_reducible refine i_sp3 ?_)
  | (with_reducible refine i_sp4 ?_)
  | (with_reducible refine i_sp1' ?_)
  | (with_reducible refine i_sp2' ?_)
  | (with_reducible refine i_sp3' ?_)
  | ((with_reducible refine' i_ix_lst ?h1 ?h2 ?_); (case h1 => walk_at "sq"); (case h2 => first | exact atI_nat rfl | rfl))
  | ((with_reducible refine' i_ix_tup ?h1 ?h2 ?_); (case h1 => walk_at "st"); (case h2 => first | exact atI_nat rfl | rfl))
  | (with_reducible refine i_gsub ?_)
  | (with_reducible refine i_par ?_)
  | (with_reducible refine i_lstRg1 ?_)
  | (with_reducible refine i_app ?_)
  | (with_reducible refine i_par2 ?_)
  | ((with_reducible refine' i_aug ?h1 ?_); (case h1 => rfl))
  | (with_reducible refine i_ipI ?_)
  | ((with_reducible refine' i_gtup2 ?h1 ?_); (case h1 => walk_at "st"))
  | (with_reducible refine i_int_bl ?_)
  | (with_reducible refine i_raise ?_)
  | (with_reducible refine i_mkE ?_)
  | (with_reducible refine i_ex1 ?_)
  | (with_reducible refine i_and ?_)
  | (with_reducible refine i_or ?_)
  | (with_reducible refine i_not ?_)
  | (with_reducible refine i_tt ?_)
  | (with_reducible refine i_ff ?_)
  | (with_reducible refine i_nott ?_)
  | (with_reducible refine i_notf ?_)
  | (with_reducible refine i_andV ?_)
  | (with_reducible refine i_orV ?_)
  | (with_reducible refine i_notV ?_)
  | (with_reducible refine i_ifE ?_)
  | (with_reducible refine i_tup ?_)
  | (with_reducible refine i_lst ?_)
  | (with_reducible refine i_un ?_)
  | (with_reducible refine i_neg ?_)
  | (with_reducible refine i_chain ?_)
  | (with_reducible refine i_next ?_)
  | (with_reducible refine i_retN ?_)
  | (with_reducible refine i_drop ?_)
  | (with_reducible refine i_int_int ?_)
  | (with_reducible refine i_abs ?_)
  | (with_reducible refine i_m1c ?_)
  | (with_reducible refine i_is_non ?_)
  | (with_reducible refine i_is_int ?_)
  | (with_reducible refine i_is_bl ?_)
  | (with_reducible refine i_isn_bl ?_)
  | (with_reducible refine i_is_str ?_)
  | (with_reducible refine i_is_ref ?_)
  | (with_reducible refine i_isn_non ?_)
  | (with_reducible refine i_isn_int ?_)
  | (with_reducible refine i_isn_str ?_)
  | (with_reducible refine i_isn_ref ?_)
  | (with_reducible refine i_len_str ?h1 ?_; (case h1 => walk_at "o"))
  | (with_reducible refine i_callD ?_)
  | (with_reducible refine i_spD2 ?_)
  | (with_reducible refine i_spM1 ?_)
  | (with_reducible refine i_spM2 ?_)
  | (with_reducible refine i_spM3 ?_)
  | (with_reducible refine i_spM4 ?_)
  | (with_reducible refine i_spM3d ?_)
  | (with_reducible refine i_tfld ?_)
  | (with_reducible refine i_sfld ?_)
  | (with_reducible refine i_meth ?_)
  | (with_reducible refine i_make ?_)
  | (with_reducible refine i_spl ?_)
  | (with_reducible refine i_mkE2 ?_)
  | (with_reducible refine i_ex2 ?_)
  | (with_reducible refine i_dget ?_)
  | (with_reducible refine i_tru ?_)
  | (with_reducible refine i_dput ?_)
  | (with_reducible refine i_dnotin ?_)
  | (with_reducible refine i_din ?_)
  | (with_reducible refine i_rev ?_)
  | (with_reducible refine i_isi_int_int ?_) | (with_reducible refine i_isi_int_bool ?_) | (with_reducible refine i_isi_int_str ?_) | (with_reducible refine i_isi_int_tuple ?_) | (with_reducible refine i_isi_int_list ?_)
  | (with_reducible refine i_isi_bl_int ?_) | (with_reducible refine i_isi_bl_bool ?_) | (with_reducible refine i_isi_bl_str ?_) | (with_reducible refine i_isi_bl_tuple ?_) | (with_reducible refine i_isi_bl_list ?_)
  | (with_reducible refine i_isi_str_int ?_) | (with_reducible refine i_isi_str_bool ?_) | (with_reducible refine i_isi_str_str ?_) | (with_reducible refine i_isi_str_tuple ?_) | (with_reducible refine i_isi_str_list ?_)
  | (with_reducible refine i_isi_non_int ?_) | (with_reducible refine i_isi_non_bool ?_) | (with_reducible refine i_isi_non_str ?_) | (with_reducible refine i_isi_non_tuple ?_) | (with_reducible refine i_isi_non_list ?_))
local macro_rules | `(tactic| walk_at "go") => `(tactic| (repeat' (walk_at "s")))
local macro_rules | `(tactic| walk_at "n") => `(tactic| simp only [wipe, List.map_cons, List.map_nil, List.set_cons_zero, List.set_cons_succ])
/-! ### signs, rows, letters, rounds, signals -/
def firstBad (l : List Nat) : Option Nat := l.findIdx? fun c => !decide (c ∈ SG)
def oV : Option Nat → V
  | some n => .int (n : Int)
  | none => .non
theorem firstBad_none {l : List Nat} (h : ∀ c ∈ l, c ∈ SG) : firstBad l = none := by
  unfold firstBad
  rw [List.findIdx?_eq_none_iff]
  intro x hx
  simp [h x hx]
theorem firstBad_some {l : List Nat} {n c : Nat} (h : l[n]? = some c) (hc : c ∉ SG) (hb : ∀ k < n, ∀ c, l[k]? = some c → c ∈ SG) : firstBad l = some n := by
  unfold firstBad
  rw [List.findIdx?_eq_some_iff_getElem]
  obtain ⟨hp, e⟩ := List.getElem?_eq_some_iff.mp h
  refine ⟨hp, by simp [e, hc], fun j hj => ?_⟩
  have := hb j hj (l[j]) (List.getElem?_eq_getElem (by omega))
  simp [this]
abbrev AZ : List Nat := [97, 98, 99, 100, 101, 102, 103, 104, 105, 106, 107, 108, 109, 110, 111, 112, 113, 114, 115, 116, 117, 118, 119, 120, 121, 122]
def rowL (m : Int) (l : List Nat) : Bool := decide ((l.length : Int) ≤ m) && (firstBad l).isNone
def isRowD (m : Int) : PyData → Bool
  | .str x => rowL m x.cps.toList
  | _ => false
def letL (l : List Nat) : Bool := decide (l.length = 1) && l.all fun c => decide (c ∈ AZ)
def isLetD : PyData → Bool
  | .str x => letL x.cps.toList
  | _ => false
def rndL (l : List Nat) : Option Int := if 1 ≤ l.length ∧ l.length ≤ 24 then (firstBad l).map fun n : Nat => (n : Int) else some (-1)
def rndD : PyData → Option Int
  | .str x => rndL x.cps.toList
  | _ => some (-1)
def neS : PyData → Bool
  | .str x => decide (x.cps.toList ≠ [])
  | _ => true
def isSigD : PyData → Bool
  | .tuple [a, b] => isLetD a && (isRowD 12 b && neS b)
  | _ => false
section
variable {P : Program} {w : World} {K : PySem.W.Frag} {mg : Str → Option Value} {base : Heap} {C_GlimError C_BadRow C_BadRound C_BadSignal C_BadMessage C_Signals C_dt_Signals___init__ : Addr}
def p_wrong_sign : P1 := fun x H Q _ => ∃ l, x = S l ∧ l.length ≤ 10000 ∧ ∀ H', Same H H' → Q (oV (firstBad l)) H'
theorem ok_wrong_sign (T : Txt K mg C_GlimError C_BadRow C_BadRound C_BadSignal C_BadMessage C_Signals C_dt_Signals___init__) : OK P w K mg base CX0 1 "wrong_sign" ["row"] (sp1  p_wrong_sign) := by
  refine OK.mk (k := 0) T.d_wrong_sign sc_wrong_sign len1 fun f cdv A outer s H vs Q E hr h => ?_
  obtain ⟨x, rfl, h⟩ := h
  refine ⟨_, (pss_cons (ps_for PassesOwn.never rfl (piEnum K rfl T.b_enumerate (pa_cons (pv 0) pa_nil)) (pgTup (n := 2) K rfl (pgs_cons (pg_name (i := 1) sc_wrong_sign.nd rfl (Or.inl rfl)) (pgs_cons (pg_name (i := 2) sc_wrong_sign.nd rfl (Or.inl rfl)) pgs_nil))) (pss_one (ps_if (pt_cmpR (opNotIn K) (pv 2) (pe_gS [46, 103, 114, 119] T.g_SIGNS) (by with_unfolding_all rfl)) (pss_one (ps_ret (pv 1))) pss_nil))) (pss_one (ps_ret pe_non))), ?_⟩
  show (_ : TS) { nx := fun _ H' => Q .non H', rt := Q } [some x, none, none] H
  obtain ⟨l, rfl, h1, q⟩ := h
  walk_at "go"
  refine f_enumS (z := l) (fun R k => by walk_at "go"; exact k) (fun i σ H' => ∃ v1 v2, σ = [some (S l), v1, v2] ∧ Same H H' ∧ ∀ k < i, ∀ c, l[k]? = some c → c ∈ SG) ⟨none, none, rfl, Same.refl H, by omega⟩ ?_ ?_
  · rintro i c σ H' Tt hc ⟨v1, v2, rfl, s1, hb⟩ nT
    show (_ : TS) _ [some (S l), some (.int (i : Int)), some (S [c])] _
    walk_at "go"
    refine i_decN (fun e => ?_) (fun e => ?_)
    · walk_at "go"
      have := q _ (s1.trans (same_upd (o := .tup [.int (i : Int), S [c]]) nT))
      rw [firstBad_some hc e hb] at this
      exact this
    · walk_at "go"
      refine ⟨_, _, rfl, s1.trans (same_upd nT), fun k hk c' hc' => ?_⟩
      by_cases e' : k < i
      · exact hb k e' c' hc'
      · have : k = i := by omega
        subst this
        rw [hc] at hc'
        cases hc'
        exact e
  · rintro σ H' ⟨v1, v2, rfl, s1, hb⟩
    walk_at "go"
    have := q _ s1
    rw [firstBad_none fun c hc => by
      obtain ⟨k, hk⟩ := List.getElem?_of_mem hc
      exact hb k (List.getElem?_eq_some_iff.mp hk).1 c hk] at this
    exact this
def p_is_row : P2 := fun x y H Q _ => ∃ d m, At H x d ∧ y = .int m ∧ ∀ H', Same H H' → Q (.bl (isRowD m d)) H'
theorem ok_is_row (T : Txt K mg C_GlimError C_BadRow C_BadRound C_BadSignal C_BadMessage C_Signals C_dt_Signals___init__) : OK P w K mg base CX0 2 "is_row" ["thing", "most"] (sp2  p_is_row) := by
  refine OK.mk (k := 1) T.d_is_row sc_is_row len2 fun f cdv A outer s H vs Q E hr h => ?_
  obtain ⟨x, y, rfl, h⟩ := h
  refine ⟨_, (pss_one (ps_ret (pe_and (pe_callB (cIsi K) (by rfl) T.b_isinstance (by decide +kernel) (pa_cons (pv 0) (pa_cons (pe_bltn (v := .ty "str") (by rfl) T.b_str (by decide +kernel) rfl) pa_nil))) (pe_and (pe_cmpR op_leP (pe_callB (cLen K) (by rfl) T.b_len (by decide +kernel) (pa_cons (pv 0) pa_nil)) (pv 1) (nomark _)) (pe_one (pe_cmpR op_isP (pe_f (ok_wrong_sign (K := K) T) (hr.mono (by decide)) pass0 (pa_cons (pv 0) pa_nil)) pe_non (nomark _))))))), ?_⟩
  show (_ : TS) { nx := fun _ H' => Q .non H', rt := Q } [some x, some y] H
  obtain ⟨d, m, hx, rfl, q⟩ := h
  walk_at "go"
  cases d
  case str z =>
    obtain ⟨l, rfl, rfl, hl⟩ := hx.strl
    change ∀ H', Same H H' → Q (.bl (rowL m l)) H' at q
    unfold rowL at q
    walk_at "go"
    refine i_dec (fun e => ?_) (fun e => ?_)
    · rw [decide_eq_true e, Bool.true_and] at q
      walk_at "go"
      refine ⟨l, rfl, hl, fun H1 s1 => ?_⟩
      have := q H1 s1
      cases e1 : firstBad l with
      | none =>
        rw [e1] at this
        rw [show oV none = V.non from rfl]
        walk_at "go"
        exact this
      | some n =>
        rw [e1] at this
        rw [show oV (some n) = V.int (n : Int) from rfl]
        walk_at "go"
        exact this
    · rw [decide_eq_false e, Bool.false_and] at q
      exact q H (Same.refl H)
  all_goals
    walk_at "go"
    refine i_isiStr false hx rfl ?_
    walk_at "go"
    exact q H (Same.refl H)
def p_is_letter : P1 := fun x H Q _ => ∃ d, At H x d ∧ Q (.bl (isLetD d)) H
theorem ok_is_letter (T : Txt K mg C_GlimError C_BadRow C_BadRound C_BadSignal C_BadMessage C_Signals C_dt_Signals___init__) : OK P w K mg base CX0 1 "is_letter" ["thing"] (sp1  p_is_letter) := by
  refine OK.mk (k := 0) T.d_is_letter sc_is_letter len1 fun f cdv A outer s H vs Q E hr h => ?_
  obtain ⟨x, rfl, h⟩ := h
  refine ⟨_, (pss_one (ps_ret (pe_and (pe_callB (cIsi K) (by rfl) T.b_isinstance (by decide +kernel) (pa_cons (pv 0) (pa_cons (pe_bltn (v := .ty "str") (by rfl) T.b_str (by decide +kernel) rfl) pa_nil))) (pe_and (pe_cmpR (opEq K hr.units) (pe_callB (cLen K) (by rfl) T.b_len (by decide +kernel) (pa_cons (pv 0) pa_nil)) pe_int (nomark _)) (pe_one (pe_cmpR (opIn K) (pv 0) (pe_gS [97, 98, 99, 100, 101, 102, 103, 104, 105, 106, 107, 108, 109, 110, 111, 112, 113, 114, 115, 116, 117, 118, 119, 120, 121, 122] T.g_LETTERS) (by with_unfolding_all rfl))))))), ?_⟩
  show (_ : TS) { nx := fun _ H' => Q .non H', rt := Q } [some x] H
  obtain ⟨d, hx, q⟩ := h
  cases d
  case str z =>
    obtain ⟨l, rfl, rfl, hl⟩ := hx.strl
    change Q (.bl (letL l)) H at q
    unfold letL at q
    walk_at "go"
    refine i_dec (fun e => ?_) (fun e => ?_)
    · have e : l.length = 1 := by omega
      rw [decide_eq_true e, Bool.true_and] at q
      obtain ⟨c, rfl⟩ := List.length_eq_one_iff.mp e
      rw [show ([c].all fun c => decide (c ∈ AZ)) = decide (c ∈ AZ) by simp] at q
      walk_at "go"
      exact q
    · rw [decide_eq_false (show ¬ l.length = 1 by omega), Bool.false_and] at q
      exact q
  all_goals
    walk_at "go"
    refine i_isiStr false hx rfl ?_
    walk_at "go"
    exact q
def p_check_round (C : Addr) : P1 := fun x H Q E => ∃ d, At H x d ∧ (match rndD d with
  | some n => Rz E H C "number" (.int n)
  | none => ∀ H', Same H H' → Q .non H')
theorem ok_check_round (T : Txt K mg C_GlimError C_BadRow C_BadRound C_BadSignal C_BadMessage C_Signals C_dt_Signals___init__) : OK P w K mg base (L2.CX P w) 3 "check_round" ["thing"] (sp1  (p_check_round C_BadRound)) := by
  refine OK.mkX (k := 2) T.d_check_round sc_check_round len1 fun f cdv A outer s H vs Q E hr h => ?_
  obtain ⟨x, rfl, h⟩ := h
  refine ⟨_, (pss_cons (ps_if (pw_or (pt_not (pt_val (pe_callB (cIsi K) (by rfl) T.b_isinstance (by decide +kernel) (pa_cons (pv 0) (pa_cons (pe_bltn (v := .ty "str") (by rfl) T.b_str (by decide +kernel) rfl) pa_nil))))) (pw_or1 (pt_not (pt_chain op_leP op_leP pe_int (pe_callB (cLen K) (by rfl) T.b_len (by decide +kernel) (pa_cons (pv 0) pa_nil)) (pe_gI (24) T.g_MOST_ROUND))))).pt (pss_one (ps_raiseP rfl (takes_of rfl rfl rfl rfl) (pmk_E (k := 0) (okx_BadRound T) (hr.mono (by decide)) (pa_cons (pe_un un_neg pe_int) pa_nil)))) pss_nil) (pss_cons (ps_set (i := 1) sc_check_round.nd rfl (Or.inl rfl) (pe_f (ok_wrong_sign (K := K) T) (hr.mono (by decide)) pass0 (pa_cons (pv 0) pa_nil))) (pss_one (ps_if (pt_cmpR op_isNotP (pv 1) pe_non (nomark _)) (pss_one (ps_raiseP rfl (takes_of rfl rfl rfl rfl) (pmk_E (k := 0) (okx_BadRound T) (hr.mono (by decide)) (pa_cons (pv 1) pa_nil)))) pss_nil)))), ?_⟩
  show (_ : TS) { nx := fun _ H' => Q .non H', rt := Q } [some x, none] H
  obtain ⟨d, hx, q⟩ := h
  cases d
  case str z =>
    obtain ⟨l, rfl, rfl, hl⟩ := hx.strl
    change (match rndL l with
      | some n => Rz E H C_BadRound "number" (.int n)
      | none => ∀ H', Same H H' → Q .non H') at q
    unfold rndL at q
    walk_at "go"
    have bad : ¬ (1 ≤ l.length ∧ l.length ≤ 24) → Rz E H C_BadRound "number" (.int (-1)) := fun h => by
      rw [if_neg h] at q; exact q
    refine i_dec (fun e1 => ?_) (fun e1 => ?_)
    rotate_left
    · walk_at "go"
      intro dd nd
      exact Rz.at (bad (by omega)) nd
    walk_at "go"
    refine i_decN (fun e2 => ?_) (fun e2 => ?_)
    · walk_at "go"
      intro dd nd
      exact Rz.at (bad (by omega)) nd
    rw [if_pos (by omega)] at q
    walk_at "go"
    refine ⟨l, rfl, hl, fun H1 s1 => ?_⟩
    cases e : firstBad l with
    | none =>
      rw [e] at q
      rw [show oV none = V.non from rfl]
      walk_at "go"
      exact q H1 s1
    | some n =>
      rw [e] at q
      rw [show oV (some n) = V.int (n : Int) from rfl]
      walk_at "go"
      intro dd nd
      exact Rz.at (Rz.mono q s1) nd
  all_goals
    walk_at "go"
    refine i_isiStr false hx rfl ?_
    walk_at "go"
    intro dd nd
    exact Rz.at q nd
def p_is_signal : P1 := fun x H Q _ => ∃ d, At H x d ∧ ∀ H', Same H H' → Q (.bl (isSigD d)) H'
theorem ok_is_signal (T : Txt K mg C_GlimError C_BadRow C_BadRound C_BadSignal C_BadMessage C_Signals C_dt_Signals___init__) : OK P w K mg base CX0 3 "is_signal" ["thing"] (sp1  p_is_signal) := by
  refine OK.mk (k := 2) T.d_is_signal sc_is_signal len1 fun f cdv A outer s H vs Q E hr h => ?_
  obtain ⟨x, rfl, h⟩ := h
  refine ⟨_, (pss_cons (ps_if (pw_or (pt_not (pt_val (pe_callB (cIsi K) (by rfl) T.b_isinstance (by decide +kernel) (pa_cons (pv 0) (pa_cons (pe_bltn (v := .ty "tuple") (by rfl) T.b_tuple (by decide +kernel) rfl) pa_nil))))) (pw_or1 (pt_cmpR (opNe K hr.units) (pe_callB (cLen K) (by rfl) T.b_len (by decide +kernel) (pa_cons (pv 0) pa_nil)) pe_int (nomark _)))).pt (pss_one (ps_ret pe_bl)) pss_nil) (pss_one (ps_ret (pe_and (pe_f (ok_is_letter (K := K) T) (hr.mono (by decide)) pass0 (pa_cons (pe_ix (ixK K) (pv 0) pe_int (fun _ _ => rfl)) pa_nil)) (pe_and (pe_f (ok_is_row (K := K) T) (hr.mono (by decide)) pass0 (pa_cons (pe_ix (ixK K) (pv 0) pe_int (fun _ _ => rfl)) (pa_cons (pe_gI (12) T.g_MOST_WORD) pa_nil))) (pe_one (pe_cmpR (opNe K hr.units) (pe_ix (ixK K) (pv 0) pe_int (fun _ _ => rfl)) (pe_S []) (nomark _)))))))), ?_⟩
  show (_ : TS) { nx := fun _ H' => Q .non H', rt := Q } [some x] H
  obtain ⟨d, hx, q⟩ := h
  cases d
  case tuple ds =>
    obtain ⟨a, xs, rfl, hH, hl, al⟩ := hx.tupled
    have ll := al.len
    walk_at "go"
    refine i_isiTup true hx rfl ?_
    walk_at "go"
    refine i_len_tup (.inl (.inl hH)) ?_
    walk_at "go"
    refine i_decN (fun e => ?_) (fun e => ?_)
    · have q0 := q H (Same.refl H)
      have : isSigD (.tuple ds) = false := by
        match ds, ll with
        | [], _ => rfl
        | [_], _ => rfl
        | [_, _], ll => exact absurd (by rw [ll]; rfl) e
        | _ :: _ :: _ :: _, _ => rfl
      rw [this] at q0
      walk_at "go"
      exact q0
    · have e2 : xs.length = 2 := by omega
      match xs, ds, e2, al with
      | [x1, x2], [d1, d2], _, al =>
        cases al with
        | cons a1 al =>
        cases al with
        | cons a2 al =>
        change ∀ H', Same H H' → Q (.bl (isLetD d1 && (isRowD 12 d2 && neS d2))) H' at q
        walk_at "go"
        refine ⟨d1, a1, _, rfl, ?_⟩
        cases e1 : isLetD d1 with
        | false =>
          rw [e1] at q
          walk_at "go"
          exact q H (Same.refl H)
        | true =>
          rw [e1] at q
          walk_at "go"
          refine ⟨d2, 12, a2, rfl, fun H1 s1 => ?_⟩
          refine ⟨_, rfl, ?_⟩
          cases e3 : isRowD 12 d2 with
          | false =>
            rw [e3] at q
            walk_at "go"
            exact q H1 s1
          | true =>
            rw [e3] at q
            obtain ⟨l, rfl⟩ : ∃ l, d2 = dS l := by
              cases d2 with
              | str z => exact ⟨z.cps.toList, by simp⟩
              | _ => cases e3
            obtain ⟨l', rfl, el, _⟩ := a2.strl
            obtain rfl : l = l' := List.toArray_inj (congrArg PySem.Str.cps el)
            walk_at "go"
            refine i_ix_tup (.inl (.inl (s1 _ _ hH))) (atI_int (z := 1) (by decide) rfl) ?_
            have q1 := q H1 s1
            rw [show (true && (true && neS (dS l))) = !decide (l = []) by simp [neS]] at q1
            walk_at "go"
            exact q1
  all_goals
    walk_at "go"
    refine i_isiTup false hx rfl ?_
    walk_at "go"
    exact q H (Same.refl H)
end
end K75
namespace K75
open PySem PySem.Spec PyProof.Rows L2 Fg
local macro_rules | `(tactic| walk_at "sq") => `(tactic| first
  | assumption
  | exact .inl (.inl (by assumption))
  | exact .inl (.inl upd_same))
local macro_rules | `(tactic| walk_at "st") => `(tactic| first
  | assumption
  | exact .inl (.inl (by assumption))
  | exact .inl (.inl upd_same))
local macro_rules | `(tactic| walk_at "o") => `(tactic| first
  | omega
  | assumption
  | (simp only [List.length_append, List.length_take, List.length_drop, List.length_cons, List.length_nil, List.length_singleton, List.length_map, List.length_range, Int.toNat_natCast] ; omega))
local macro_rules | `(tactic| walk_at "s") => `(tactic| first
  | (with_reducible refine i_seq ?_)
  | (with_reducible refine i_asg ?_)
  | ((with_reducible refine' i_var ?h1 ?_); (case h1 => rfl))
  | (with_reducible refine i_c ?_)
  | ((with_reducible refine' i_gname' ?h1 ?_); (case h1 => (simp only [List.set_cons_zero, List.set_cons_succ]; rfl)))
  | (with_reducible refine i_op ?_)
  | (with_reducible refine i_ifS ?_)
  | (with_reducible refine i_for ?_)
  | (with_reducible refine i_test ?_)
  | (with_reducible refine i_B ?_)
  | (with_reducible refine i_exbl ?_)
  | (with_reducible refine i_exint ?_)
  | (with_reducible refine i_cb ?_)
  | (with_reducible refine i_nil ?_)
  | (with_reducible refine i_cons ?_)
  | (with_reducible refine i_ret ?_)
  | (with_reducible refine i_sl ?_)
  | (with_reducible refine i_nopart ?_)
  | (with_reducible refine i_part ?_)
  | (with_reducible refine i_add_int ?_)
  | (with_reducible refine i_sub ?_)
  | (with_reducible refine i_lt ?_)
  | ((with_reducible refine' i_mod ?h1 ?_); (case h1 => walk_at "o"))
  | ((with_reducible refine' i_fdiv ?h1 ?_); (case h1 => (refine cdiv_small ?_ ?_ <;> walk_at "o")))
  | ((with_reducible refine' i_sl_to ?h1 ?h2 ?_); (case h1 => walk_at "o"); (case h2 => walk_at "o"))
  | ((with_reducible refine' i_sl_from ?h1 ?h2 ?_); (case h1 => walk_at "o"); (case h2 => walk_at "o"))
  | ((with_reducible refine' i_add_str ?h1 ?_); (case h1 => walk_at "o"))
  | ((with_reducible refine' i_mul_int ?h1 ?_); (case h1 => first | (refine mul_small ?_ ?_ <;> walk_at "o") | (refine mul_smallR ?_ ?_ <;> walk_at "o")))
  | (with_reducible refine i_le ?_)
  | (with_reducible refine i_gt ?_)
  | (with_reducible refine i_ge ?_)
  | (with_reducible refine i_eq_int ?_)
  | (with_reducible refine i_eq_str ?_)
  | (with_reducible refine i_ne_int ?_)
  | (with_reducible refine i_ne_str ?_)
  | (with_reducible refine i_eq_bl ?_)
  | (with_reducible refine i_ne_bl ?_)
  | (with_reducible refine i_in_sg ?_)
  | (with_reducible refine i_notIn_sg ?_)
  | (with_reducible refine i_call ?_)
  | (with_reducible refine i_callS ?_)
  | (with_reducible refine i_sp1 ?_)
  | (with_reducible refine i_sp2 ?_)
  | (with_reducible refine i_sp3 ?_)
  | (with_reducible refine i_sp4 ?_)
  | (with_reducible refine i_sp1' ?_)
  | (with_reducible refine i_sp2' ?_)
  | (with_reducible refine i_sp3' ?_)
  | ((with_reducible refine' i_ix_lst ?h1 ?h2 ?_); (case h1 => walk_at "sq"); (case h2 => first | exact atI_nat rfl | rfl))
  | ((with_reducible refine' i_ix_tup ?h1 ?h2 ?_); (case h1 => walk_at "st"); (case h2 => first | exact atI_nat rfl | rfl))
  | (with_reducible refine i_gsub ?_)
  | (with_reducible refine i_par ?_)
  | (with_reducible refine i_lstRg1 ?_)
  | (with_reducible refine i_app ?_)
  | (with_reducible refine i_par2 ?_)
  | ((with_reducible refine' i_aug ?h1 ?_); (case h1 => rfl))
  | (with_reducible refine i_ipI ?_)
  | ((with_reducible refine' i_gtup2 ?h1 ?_); (case h1 => walk_at "st"))
  | (with_reducible refine i_int_bl ?_)
  | (with_reducible refine i_raise ?_)
  | (with_reducible refine i_mkE ?_)
  | (with_reducible refine i_ex1 ?_)
  | (with_reducible refine i_and ?_)
  | (with_reducible refine i_or ?_)
  | (with_reducible refine i_not ?_)
  | (with_reducible refine i_tt ?_)
  | (with_reducible refine i_ff ?_)
  | (with_reducible refine i_nott ?_)
  | (with_reducible refine i_notf ?_)
  | (with_reducible refine i_andV ?_)
  | (with_reducible refine i_orV ?_)
  | (with_reducible refine i_notV ?_)
  | (with_reducible refine i_ifE ?_)
  | (with_reducible refine i_tup ?_)
  | (with_reducible refine i_lst ?_)
  | (with_reducible refine i_un ?_)
  | (with_reducible refine i_neg ?_)
  | (with_reducible refine i_chain ?_)
  | (with_reducible refine i_next ?_)
  | (with_reducible refine i_retN ?_)
  | (with_reducible refine i_drop ?_)
  | (with_reducible refine i_int_int ?_)
  | (with_reducible refine i_abs ?_)
  | (with_reducible refine i_m1c ?_)
  | (with_reducible refine i_is_non ?_)
  | (with_reducible refine i_is_int ?_)
  | (with_reducible refine i_is_bl ?_)
  | (with_reducible refine i_isn_bl ?_)
  | (with_reducible refine i_is_str ?_)
  | (with_reducible refine i_is_ref ?_)
  | (with_reducible refine i_isn_non ?_)
  | (with_reducible refine i_isn_int ?_)
  | (with_reducible refine i_isn_str ?_)
  | (with_reducible refine i_isn_ref ?_)
  | (with_reducible refine i_len_str ?h1 ?_; (case h1 => walk_at "o"))
  | (with_reducible refine i_callD ?_)
  | (with_reducible refine i_spD2 ?_)
  | (with_reducible refine i_spM1 ?_)
  | (with_reducible refine i_spM2 ?_)
  | (with_reducible refine i_spM3 ?_)
  | (with_reducible refine i_spM4 ?_)
  | (with_reducible refine i_spM3d ?_)
  | (with_reducible refine i_tfld ?_)
  | (with_reducible refine i_sfld ?_)
  | (with_reducible refine i_meth ?_)
  | (with_reducible refine i_make ?_)
  | (with_reducible refine i_spl ?_)
  | (with_reducible refine i_mkE2 ?_)
  | (with_reducible refine i_ex2 ?_)
  | (with_reducible refine i_dget ?_)
  | (with_reducible refine i_tru ?_)
  | (with_reducible refine i_dput ?_)
  | (with_reducible refine i_dnotin ?_)
  | (with_reducible refine i_din ?_)
  | (with_reducible refine i_rev ?_)
  | (with_reducible refine i_isi_int_int ?_) | (with_reducible refine i_isi_int_bool ?_) | (with_reducible refine i_isi_int_str ?_) | (with_reducible refine i_isi_int_tuple ?_) | (with_reducible refine i_isi_int_list ?_)
  | (with_reducible refine i_isi_bl_int ?_) | (with_reducible refine i_isi_bl_bool ?_) | (with_reducible refine i_isi_bl_str ?_) | (with_reducible refine i_isi_bl_tuple ?_) | (with_reducible refine i_isi_bl_list ?_)
  | (with_reducible refine i_isi_str_int ?_) | (with_reducible refine i_isi_str_bool ?_) | (with_reducible refine i_isi_str_str ?_) | (with_reducible refine i_isi_str_tuple ?_) | (with_reducible refine i_isi_str_list ?_)
  | (with_reducible refine i_isi_non_int ?_) | (with_reducible refine i_isi_non_bool ?_) | (with_reducible refine i_isi_non_str ?_) | (with_reducible refine i_isi_non_tuple ?_) | (with_reducible refine i_isi_non_list ?_))
local macro_rules | `(tactic| walk_at "go") => `(tactic| (repeat' (walk_at "s")))
local macro_rules | `(tactic| walk_at "n") => `(tactic| simp only [wipe, List.map_cons, List.map_nil, List.set_cons_zero, List.set_cons_succ])
theorem kt2 {K : PySem.W.Frag} : PySem.W.kitAny K (.type "tuple") [.type "list", .type "tuple"] = some true := kitAny_cons (b := false) (kit_ty (by decide +kernel)) (fun _ => kitAny_cons (b := true) (kit_ty (by decide +kernel)) (fun z => nomatch z) (fun _ => rfl)) (fun z => nomatch z)
section
variable {P : Program} {w : World} {K : PySem.W.Frag} {mg : Str → Option Value} {base : Heap} {C_GlimError C_BadRow C_BadRound C_BadSignal C_BadMessage C_Signals C_dt_Signals___init__ : Addr}
def p_deepN (n : Nat) : P2 := fun x y H Q _ => ∃ A d z, Same A H ∧ At A x d ∧ y = .int z ∧ 0 ≤ z ∧ z + n ≤ 65 ∧ d.depth < n ∧ ∀ A' H' v, Ext A H A' H' → At A' v (deepD d) → Q v H'
/-- .. or the empty tuple of the text -/
def p_deepE (K : PySem.W.Frag) (n : Nat) : P2 := fun x y H Q E => p_deepN n x y H Q E ∨ ∃ a o, x = .ref a ∧ y = .int 0 ∧ 0 < n ∧ K.lookup a = some o ∧ o.cls = .type "tuple" ∧ (∀ H, SqT K H a []) ∧ ∀ H' p, Same H H' → H p = none → H' p = some (.tup []) → Q (.ref p) H'
theorem deep_n (T : Txt K mg C_GlimError C_BadRow C_BadRound C_BadSignal C_BadMessage C_Signals C_dt_Signals___init__) (n : Nat) (R : OK P w K mg base CX0 n "deep" ["thing", "level"] (sp2 (p_deepE K n))) : OKD P w K mg base CX0 (n + 1) "deep" ["thing", "level"] [.int 0] (sp2 (p_deepE K (n + 1))) := by
  refine OKD.mk (k := n) T.d_deep sc_deep len2 fun f cdv A outer s H vs Q E hr h => ?_
  obtain ⟨x, y, rfl, h⟩ := h
  refine ⟨_, (pss_cons (ps_if (pw_and (pt_val (pe_callB (cIsiT K) (by rfl) T.b_isinstance (by decide +kernel) (pa_cons (pv 0) (pa_cons (pe_tup (pa_cons (pe_bltn (v := .ty "list") (by rfl) T.b_list (by decide +kernel) rfl) (pa_cons (pe_bltn (v := .ty "tuple") (by rfl) T.b_tuple (by decide +kernel) rfl) pa_nil))) pa_nil)))) (pw_and1 (pt_cmpR op_ltP (pv 1) (pe_gI (70) T.g_MOST_LEVELS) (nomark _)))).pt (pss_one (ps_ret (pe_callTy (cTup K) (by rfl) T.b_tuple (by decide +kernel) (pa_cons (pe_lc (own := [("part", 2)]) (g := gName 2) (tt := tYes) (by rfl) sc_deep.nd (piAny K (pv 0)) (blkOk_by (own := [("part", 2)]) (N := ["thing", "level", "part"]) (sc := (defScope s_deep)) (by decide +kernel)) (fun _ _ _ _ _ => (pg_name (i := 2) sc_deep.nd rfl (Or.inl rfl))) (fun _ _ _ _ _ => pts_nil) (fun _ _ _ _ _ => (pe_f R (hr.mono (by omega)) pass0 (pa_cons (pv 2) (pa_cons (pe_op (opAdd K) (pv 1) pe_int) pa_nil))))) pa_nil)))) pss_nil) (pss_one (ps_ret (pv 0)))), ?_⟩
  show (_ : TS) { nx := fun _ H' => Q .non H', rt := Q } [some x, some y, none] H
  rcases h with ⟨A, d, z, sa, hx, rfl, z0, zn, dd, q⟩ | ⟨a, o, rfl, rfl, n0, ka, kc, kt, q⟩
  · walk_at "go"
    refine i_new (by show 2 ≤ 100000; omega) fun tp ntp => ?_
    have x1 := (Ext.refl sa).hid (o := .tup [.ty "list", .ty "tuple"]) ntp
    walk_at "go"
    cases d
    case list ds =>
      obtain ⟨a, xs, rfl, hH, hl, al⟩ := hx.listed
      have e1 : deepD (.list ds) = .tuple (ds.map deepD) := by rw [← deepDs_map]; rfl
      have d1 : PyData.depthAll ds + 1 < n + 1 := dd
      rw [e1] at q
      refine i_isiSeq true (x1.up hx) upd_same rfl ?_
      walk_at "go"
      rw [decide_eq_true (show z < 70 by omega)]
      walk_at "go"
      refine Fg.c_lstD x1.ag (fun R k => by walk_at "go"; exact k) (.inl (.inl (x1.ag _ _ hH))) al hl deepD (fun _ => rfl) (fun y d A1 G1 hd hy y1 QV k => ?_) (fun Dl A1 G1 l y1 e ea al2 ll => ?_)
      · show (_ : TE) [some (.ref a), some (.int z), some y] G1 QV
        have d2 := depth_mem hd
        walk_at "go"
        exact .inl ⟨A1, d, z + 1, y1.ag, hy, rfl, by omega, by omega, by omega, k⟩
      · walk_at "go"
        refine i_tuple_lst (.inl (.inl e)) fun tl ntl => ?_
        have na : A1 tl = none := y1.ag.free ntl
        have hds := al.len
        exact q _ _ _ ((x1.trans y1).new ntl) (At.mkTup upd_same (al2.same (same_upd na)) (by rw [List.length_map]; omega))
    case tuple ds =>
      obtain ⟨a, xs, rfl, hH, hl, al⟩ := hx.tupled
      have e1 : deepD (.tuple ds) = .tuple (ds.map deepD) := by rw [← deepDs_map]; rfl
      have d1 : PyData.depthAll ds + 1 < n + 1 := dd
      rw [e1] at q
      refine i_isiSeq true (x1.up hx) upd_same rfl ?_
      walk_at "go"
      rw [decide_eq_true (show z < 70 by omega)]
      walk_at "go"
      refine c_tupD x1.ag (fun R k => by walk_at "go"; exact k) (.inl (.inl (x1.ag _ _ hH))) al hl deepD (fun _ => rfl) (fun y d A1 G1 hd hy y1 QV k => ?_) (fun Dl A1 G1 l y1 e ea al2 ll => ?_)
      · show (_ : TE) [some (.ref a), some (.int z), some y] G1 QV
        have d2 := depth_mem hd
        walk_at "go"
        exact .inl ⟨A1, d, z + 1, y1.ag, hy, rfl, by omega, by omega, by omega, k⟩
      · walk_at "go"
        refine i_tuple_lst (.inl (.inl e)) fun tl ntl => ?_
        have na : A1 tl = none := y1.ag.free ntl
        have hds := al.len
        exact q _ _ _ ((x1.trans y1).new ntl) (At.mkTup upd_same (al2.same (same_upd na)) (by rw [List.length_map]; omega))
    all_goals
      refine i_isiSeq false (x1.up hx) upd_same rfl ?_
      walk_at "go"
      exact q _ _ _ x1 hx
  · walk_at "go"
    refine i_new (by show 2 ≤ 100000; omega) fun tp ntp => ?_
    have x1 : Same H (upd H tp (.tup [.ty "list", .ty "tuple"])) := same_upd ntp
    walk_at "go"
    refine ⟨_, tp, _, _, _, true, rfl, upd_same, .cons (.ty _) (.cons (.ty _) .nil), .kTuple ka kc, kt2, ?_⟩
    walk_at "go"
    rw [decide_eq_true (show (0 : Int) < 70 by decide)]
    walk_at "go"
    refine c_tup (xs := []) (fun R k => by walk_at "go"; exact k) (kt _) (by decide) (fun _ => true) (fun _ => .non) (fun _ => rfl) (fun i x H2 hi => by simp at hi) (fun i x H2 hi => by simp at hi) (fun Dl H2 n2 s2 d2 => ?_)
    walk_at "go"
    refine i_tuple_lst (.inl (.inl d2)) fun tl ntl => ?_
    have s3 := x1.trans s2
    exact q _ tl (s3.trans (same_upd ntl)) (s3.free ntl) upd_same
theorem deep_all (T : Txt K mg C_GlimError C_BadRow C_BadRound C_BadSignal C_BadMessage C_Signals C_dt_Signals___init__) : ∀ n, OK P w K mg base CX0 n "deep" ["thing", "level"] (sp2 (p_deepE K n))
  | 0 => OK.weak (OK.never T.d_deep) fun vs H Q E h => by
    obtain ⟨_, _, _, h⟩ := h
    rcases h with ⟨_, _, _, _, _, _, _, _, z, _⟩ | ⟨_, _, _, _, z, _⟩ <;> omega
  | n + 1 => (deep_n T n (deep_all T n)).full
theorem ok_deep (T : Txt K mg C_GlimError C_BadRow C_BadRound C_BadSignal C_BadMessage C_Signals C_dt_Signals___init__) : OKD P w K mg base CX0 6 "deep" ["thing", "level"] [.int 0] (sp2 (p_deepE K 6)) := deep_n T 5 (deep_all T 5)
/-- which signal is wrong: -1 if there are too many or they are no tuple -/
def sgKey : PyData → List Nat
  | .tuple (.str x :: _) => x.cps.toList
  | _ => []
def sgBad (used : List (List Nat)) : Nat → List PyData → Option Nat
  | _, [] => none
  | n, d :: r => if isSigD d && !decide (sgKey d ∈ used) then sgBad (sgKey d :: used) (n + 1) r else some n
def sgsD : PyData → Option Int
  | .tuple ds => if ds.length ≤ 4 then (sgBad [] 0 ds).map fun n : Nat => (n : Int) else some (-1)
  | _ => some (-1)
def usedG (used : List (List Nat)) : List Nat → Option V := fun l => if l ∈ used then some (.bl true) else none
theorem sig_of {d : PyData} (h : isSigD d = true) : ∃ l m, d = .tuple [dS l, dS m] ∧ letL l = true ∧ rowL 12 m = true ∧ m ≠ [] := by
  match d, h with
  | .tuple [a, b], h =>
    have h' : (isLetD a && (isRowD 12 b && neS b)) = true := h
    rw [Bool.and_eq_true, Bool.and_eq_true] at h'
    obtain ⟨h1, h2, h3⟩ := h'
    cases a with
    | str x => 
      cases b with
      | str y => exact ⟨x.cps.toList, y.cps.toList, by simp, h1, h2, of_decide_eq_true h3⟩
      | _ => cases h2
    | _ => cases h1
def p_check_signals (C : Addr) : P1 := fun x H Q E => ∃ d, At H x d ∧ (match sgsD d with
  | some n => Rz E H C "number" (.int n)
  | none => ∀ H', Same H H' → Q .non H')
theorem ok_check_signals (T : Txt K mg C_GlimError C_BadRow C_BadRound C_BadSignal C_BadMessage C_Signals C_dt_Signals___init__) : OK P w K mg base (L2.CX P w) 4 "check_signals" ["signals"] (sp1  (p_check_signals C_BadSignal)) := by
  refine OK.mkX (k := 3) T.d_check_signals sc_check_signals len1 fun f cdv A outer s H vs Q E hr h => ?_
  obtain ⟨x, rfl, h⟩ := h
  refine ⟨_, (pss_cons (ps_if (pw_or (pt_not (pt_val (pe_callB (cIsi K) (by rfl) T.b_isinstance (by decide +kernel) (pa_cons (pv 0) (pa_cons (pe_bltn (v := .ty "tuple") (by rfl) T.b_tuple (by decide +kernel) rfl) pa_nil))))) (pw_or1 (pt_cmpR op_gtP (pe_callB (cLen K) (by rfl) T.b_len (by decide +kernel) (pa_cons (pv 0) pa_nil)) (pe_gI (4) T.g_MOST_SIGNALS) (nomark _)))).pt (pss_one (ps_raiseP rfl (takes_of rfl rfl rfl rfl) (pmk_E (k := 0) (okx_BadSignal T) (hr.mono (by decide)) (pa_cons (pe_un un_neg pe_int) pa_nil)))) pss_nil) (pss_cons (ps_set (i := 1) sc_check_signals.nd rfl (Or.inl rfl) pe_dnewK) (pss_one (ps_for (passes_of rfl) rfl (piEnumT K rfl T.b_enumerate (pa_cons (pv 0) pa_nil)) (pgTup (n := 2) K rfl (pgs_cons (pg_name (i := 2) sc_check_signals.nd rfl (Or.inl rfl)) (pgs_cons (pg_name (i := 3) sc_check_signals.nd rfl (Or.inl rfl)) pgs_nil))) (pss_cons (ps_if (pw_or (pt_not (pt_val (pe_f (ok_is_signal (K := K) T) (hr.mono (by decide)) pass0 (pa_cons (pv 3) pa_nil)))) (pw_or1 (pt_cmp (pc_din (hu_of hr) (pe_ix (ixK K) (pv 3) pe_int (fun _ _ => rfl)) (pv 1))))).pt (pss_one (ps_raiseP rfl (takes_of rfl rfl rfl rfl) (pmk_E (k := 0) (okx_BadSignal T) (hr.mono (by decide)) (pa_cons (pv 2) pa_nil)))) pss_nil) (pss_one (ps_dput (hu_of hr) (pv 1) (pe_ix (ixK K) (pv 3) pe_int (fun _ _ => rfl)) pe_bl rfl))))))), ?_⟩
  show (_ : TS) { nx := fun _ H' => Q .non H', rt := Q } [some x, none, none, none] H
  obtain ⟨d, hx, q⟩ := h
  cases d
  case tuple ds =>
    obtain ⟨a, xs, rfl, hH, hl, al⟩ := hx.tupled
    have ll := al.len
    change (match (if ds.length ≤ 4 then (sgBad [] 0 ds).map fun n : Nat => (n : Int) else some (-1)) with
      | some n => Rz E H C_BadSignal "number" (.int n)
      | none => ∀ H', Same H H' → Q .non H') at q
    walk_at "go"
    refine i_isiTup true hx rfl ?_
    walk_at "go"
    refine i_len_tup (.inl (.inl hH)) ?_
    rw [ll]
    walk_at "go"
    refine i_dec (fun e1 => ?_) (fun e1 => ?_)
    · rw [if_neg (by omega)] at q
      walk_at "go"
      intro dd nd
      exact Rz.at q nd
    rw [if_pos (by omega)] at q
    walk_at "go"
    refine i_dnewK fun td ntd => ?_
    have sd : Same H (upd H td (.dK [])) := same_upd ntd
    walk_at "go"
    dsimp only
    refine f_enumT (ta := tCons (tVar 0) tNil) (i1 := 2) (i2 := 3) (a := a) (xs := xs) (fun R k => by walk_at "go"; exact k) (.inl (.inl (sd _ _ hH))) (fun i σ H' => ∃ v1 v2 used, σ = [some (.ref a), some (.ref td), v1, v2] ∧ Same H H' ∧ TD i H' td (usedG used) ∧ sgBad [] 0 ds = sgBad used i (ds.drop i))
      ⟨none, none, [], rfl, sd, TD.new, rfl⟩ (fun i σ' H' _ p => ?_) ?_ ?_
    · obtain ⟨_, _, _, _, s1, _⟩ := p
      rw [s1 _ _ hH, sd _ _ hH]
    · rintro i x σ H' Tt hi ⟨v1, v2, used, rfl, s1, td1, eb⟩ nT
      show (_ : TS) _ [some (.ref a), some (.ref td), some (.int (i : Int)), some x] _
      obtain ⟨c, hc, ac⟩ := al.get hi
      have st : Same H' (upd H' Tt (.tup [.int (i : Int), x])) := same_upd nT
      have hlt := (List.getElem?_eq_some_iff.mp hc).1
      have ed : ds.drop i = c :: ds.drop (i + 1) := by
        rw [List.drop_eq_getElem_cons hlt, (List.getElem?_eq_some_iff.mp hc).2]
      rw [ed] at eb
      have eb : sgBad [] 0 ds = if isSigD c && !decide (sgKey c ∈ used) then sgBad (sgKey c :: used) (i + 1) (ds.drop (i + 1)) else some i := eb
      walk_at "go"
      refine ⟨c, ac.same (s1.trans st), fun H2 s2 => ?_⟩
      have s3 : Same H H2 := s1.trans (st.trans s2)
      cases ew : isSigD c with
      | false =>
        rw [ew, Bool.false_and, if_neg (by decide)] at eb
        rw [eb] at q
        walk_at "go"
        intro dd nd
        exact Rz.at (Rz.mono q s3) nd
      | true =>
        obtain ⟨l, m, rfl, hl, hm, hne⟩ := sig_of ew
        obtain ⟨b, ys, rfl, hb, _, ay⟩ := (ac.same s3).tupled
        cases ay with
        | cons a1 ay =>
        obtain ⟨l', rfl, el, _⟩ := a1.strl
        obtain rfl : l = l' := List.toArray_inj (congrArg PySem.Str.cps el)
        rw [ew, Bool.true_and] at eb
        have td2 := td1.mono (st.trans s2)
        have ek : sgKey (.tuple [dS l, dS m]) = l := rfl
        rw [ek] at eb
        walk_at "go"
        refine td_ask (l := l) td2 ?_
        unfold usedG
        by_cases hu : l ∈ used
        · rw [if_neg (by simp [hu])] at eb
          rw [eb] at q
          rw [if_pos hu]
          simp only [Option.isSome_some]
          walk_at "go"
          intro dd nd
          exact Rz.at (Rz.mono q s3) nd
        · rw [if_pos (by simp [hu])] at eb
          rw [if_neg hu]
          simp only [Option.isSome_none]
          walk_at "go"
          have hi4 : i ≤ 4 := by omega
          refine td_put (l := l) td2 (by omega) fun o5 td3 => ?_
          walk_at "go"
          refine ⟨_, _, l :: used, rfl, fun b' o' e' => ?_, ?_, eb⟩
          · rw [upd_ne (ne_of_none e' ntd)]
            exact s3 _ _ e'
          · obtain ⟨kvs, k1, k2, k3⟩ := td3
            refine ⟨kvs, k1, k2, fun m' => ?_⟩
            rw [k3 m']
            show (if m' = l then some (V.bl true) else if m' ∈ used then some (V.bl true) else none) = if m' ∈ l :: used then some (V.bl true) else none
            by_cases e' : m' = l
            · rw [if_pos e', if_pos (by rw [e']; exact List.mem_cons_self ..)]
            · rw [if_neg e']
              by_cases e2 : m' ∈ used
              · rw [if_pos e2, if_pos (List.mem_cons_of_mem _ e2)]
              · rw [if_neg e2, if_neg (by simp [e', e2])]
    · rintro σ' H' ⟨v1, v2, used, rfl, s1, td1, eb⟩
      rw [List.drop_of_length_le (by omega)] at eb
      have eb : sgBad [] 0 ds = none := eb
      rw [eb] at q
      walk_at "go"
      exact q H' s1
  all_goals
    walk_at "go"
    refine i_isiTup false hx rfl ?_
    walk_at "go"
    intro dd nd
    exact Rz.at q nd
end
end K75
namespace K75
open PySem PySem.Spec PyProof.Rows L2 Fg
local macro_rules | `(tactic| walk_at "sq") => `(tactic| first
  | assumption
  | exact .inl (.inl (by assumption))
  | exact .inl (.inl upd_same))
local macro_rules | `(tactic| walk_at "st") => `(tactic| first
  | assumption
  | exact .inl (.inl (by assumption))
  | exact .inl (.inl upd_same))
local macro_rules | `(tactic| walk_at "o") => `(tactic| first
  | omega
  | assumption
  | (simp only [List.length_append, List.length_take, List.length_drop, List.length_cons, List.length_nil, List.length_singleton, List.length_map, List.length_range, Int.toNat_natCast] ; omega))
local macro_rules | `(tactic| walk_at "s") => `(tactic| first
  | (with_reducible refine i_seq ?_)
  | (with_reducible refine i_asg ?_)
  | ((with_reducible refine' i_var ?h1 ?_); (case h1 => rfl))
  | (with_reducible refine i_c ?_)
  | ((with_reducible refine' i_gname' ?h1 ?_); (case h1 => (simp only [List.set_cons_zero, List.set_cons_succ]; rfl)))
  | (with_reducible refine i_op ?_)
  | (with_reducible refine i_ifS ?_)
  | (with_reducible refine i_for ?_)
  | (with_reducible refine i_test ?_)
  | (with_reducible refine i_B ?_)
  | (with_reducible refine i_exbl ?_)
  | (with_reducible refine i_exint ?_)
  | (with_reducible refine i_cb ?_)
  | (with_reducible refine i_nil ?_)
  | (with_reducible refine i_cons ?_)
  | (with_reducible refine i_ret ?_)
  | (with_reducible refine i_sl ?_)
  | (with_reducible refine i_nopart ?_)
  | (with_reducible refine i_part ?_)
  | (with_reducible refine i_add_int ?_)
  | (with_reducible refine i_sub ?_)
  | (with_reducible refine i_lt ?_)
  | ((with_reducible refine' i_mod ?h1 ?_); (case h1 => walk_at "o"))
  | ((with_reducible refine' i_fdiv ?h1 ?_); (case h1 => (refine cdiv_small ?_ ?_ <;> walk_at "o")))
  | ((with_reducible refine' i_sl_to ?h1 ?h2 ?_); (case h1 => walk_at "o"); (case h2 => walk_at "o"))
  | ((with_reducible refine' i_sl_from ?h1 ?h2 ?_); (case h1 => walk_at "o"); (case h2 => walk_at "o"))
  | ((with_reducible refine' i_add_str ?h1 ?_); (case h1 => walk_at "o"))
  | ((with_reducible refine' i_mul_int ?h1 ?_); (case h1 => first | (refine mul_small ?_ ?_ <;> walk_at "o") | (refine mul_smallR ?_ ?_ <;> walk_at "o")))
  | (with_reducible refine i_le ?_)
  | (with_reducible refine i_gt ?_)
  | (with_reducible refine i_ge ?_)
  | (with_reducible refine i_eq_int ?_)
  | (with_reducible refine i_eq_str ?_)
  | (with_reducible refine i_ne_int ?_)
  | (with_reducible refine i_ne_str ?_)
  | (with_reducible refine i_eq_bl ?_)
  | (with_reducible refine i_ne_bl ?_)
  | (with_reducible refine i_in_sg ?_)
  | (with_reducible refine i_notIn_sg ?_)
  | (with_reducible refine i_call ?_)
  | (with_reducible refine i_callS ?_)
  | (with_reducible refine i_sp1 ?_)
  | (with_reducible refine i_sp2 ?_)
  | (with_reducible refine i_sp3 ?_)
  | (with_reducible refine i_sp4 ?_)
  | (with_reducible refine i_sp1' ?_)
  | (with_reducible refine i_sp2' ?_)
  | (with_reducible refine i_sp3' ?_)
  | ((with_reducible refine' i_ix_lst ?h1 ?h2 ?_); (case h1 => walk_at "sq"); (case h2 => first | exact atI_nat rfl | rfl))
  | ((with_reducible refine' i_ix_tup ?h1 ?h2 ?_); (case h1 => walk_at "st"); (case h2 => first | exact atI_nat rfl | rfl))
  | (with_reducible refine i_gsub ?_)
  | (with_reducible refine i_par ?_)
  | (with_reducible refine i_lstRg1 ?_)
  | (with_reducible refine i_app ?_)
  | (with_reducible refine i_par2 ?_)
  | ((with_reducible refine' i_aug ?h1 ?_); (case h1 => rfl))
  | (with_reducible refine i_ipI ?_)
  | ((with_reducible refine' i_gtup2 ?h1 ?_); (case h1 => walk_at "st"))
  | (with_reducible refine i_int_bl ?_)
  | (with_reducible refine i_raise ?_)
  | (with_reducible refine i_mkE ?_)
  | (with_reducible refine i_ex1 ?_)
  | (with_reducible refine i_and ?_)
  | (with_reducible refine i_or ?_)
  | (with_reducible refine i_not ?_)
  | (with_reducible refine i_tt ?_)
  | (with_reducible refine i_ff ?_)
  | (with_reducible refine i_nott ?_)
  | (with_reducible refine i_notf ?_)
  | (with_reducible refine i_andV ?_)
  | (with_reducible refine i_orV ?_)
  | (with_reducible refine i_notV ?_)
  | (with_reducible refine i_ifE ?_)
  | (with_reducible refine i_tup ?_)
  | (with_reducible refine i_lst ?_)
  | (with_reducible refine i_un ?_)
  | (with_reducible refine i_neg ?_)
  | (with_reducible refine i_chain ?_)
  | (with_reducible refine i_next ?_)
  | (with_reducible refine i_retN ?_)
  | (with_reducible refine i_drop ?_)
  | (with_reducible refine i_int_int ?_)
  | (with_reducible refine i_abs ?_)
  | (with_reducible refine i_m1c ?_)
  | (with_reducible refine i_is_non ?_)
  | (with_reducible refine i_is_int ?_)
  | (with_reducible refine i_is_bl ?_)
  | (with_reducible refine i_isn_bl ?_)
  | (with_reducible refine i_is_str ?_)
  | (with_reducible refine i_is_ref ?_)
  | (with_reducible refine i_isn_non ?_)
  | (with_reducible refine i_isn_int ?_)
  | (with_reducible refine i_isn_str ?_)
  | (with_reducible refine i_isn_ref ?_)
  | (with_reducible refine i_len_str ?h1 ?_; (case h1 => walk_at "o"))
  | (with_reducible refine i_callD ?_)
  | (with_reducible refine i_spD2 ?_)
  | (with_reducible refine i_spM1 ?_)
  | (with_reducible refine i_spM2 ?_)
  | (with_reducible refine i_spM3 ?_)
  | (with_reducible refine i_spM4 ?_)
  | (with_reducible refine i_spM3d ?_)
  | (with_reducible refine i_tfld ?_)
  | (with_reducible refine i_sfld ?_)
  | (with_reducible refine i_meth ?_)
  | (with_reducible refine i_make ?_)
  | (with_reducible refine i_spl ?_)
  | (with_reducible refine i_mkE2 ?_)
  | (with_reducible refine i_ex2 ?_)
  | (with_reducible refine i_dget ?_)
  | (with_reducible refine i_tru ?_)
  | (with_reducible refine i_dput ?_)
  | (with_reducible refine i_dnotin ?_)
  | (with_reducible refine i_din ?_)
  | (with_reducible refine i_rev ?_)
  | (with_reducible refine i_isi_int_int ?_) | (with_reducible refine i_isi_int_bool ?_) | (with_reducible refine i_isi_int_str ?_) | (with_reducible refine i_isi_int_tuple ?_) | (with_reducible refine i_isi_int_list ?_)
  | (with_reducible refine i_isi_bl_int ?_) | (with_reducible refine i_isi_bl_bool ?_) | (with_reducible refine i_isi_bl_str ?_) | (with_reducible refine i_isi_bl_tuple ?_) | (with_reducible refine i_isi_bl_list ?_)
  | (with_reducible refine i_isi_str_int ?_) | (with_reducible refine i_isi_str_bool ?_) | (with_reducible refine i_isi_str_str ?_) | (with_reducible refine i_isi_str_tuple ?_) | (with_reducible refine i_isi_str_list ?_)
  | (with_reducible refine i_isi_non_int ?_) | (with_reducible refine i_isi_non_bool ?_) | (with_reducible refine i_isi_non_str ?_) | (with_reducible refine i_isi_non_tuple ?_) | (with_reducible refine i_isi_non_list ?_))
local macro_rules | `(tactic| walk_at "go") => `(tactic| (repeat' (walk_at "s")))
local macro_rules | `(tactic| walk_at "n") => `(tactic| simp only [wipe, List.map_cons, List.map_nil, List.set_cons_zero, List.set_cons_succ])
/-! ### signals as they stand -/
abbrev Tb := List (Nat × List Nat)
def SF (pl : List Nat) (t d : Addr) : List (Str × V) := putF "spelled" (.ref d) (putF "signals" (.ref t) (putF "plain" (S pl) []))
theorem SF_pl (pl : List Nat) (t d : Addr) : (SF pl t d).lookup ("plain" : Str) = some (S pl) := by
  unfold SF
  rw [lookup_putF, if_neg (by decide), lookup_putF, if_neg (by decide), lookup_putF, if_pos rfl]
theorem SF_si (pl : List Nat) (t d : Addr) : (SF pl t d).lookup ("signals" : Str) = some (.ref t) := by
  unfold SF
  rw [lookup_putF, if_neg (by decide), lookup_putF, if_pos rfl]
theorem SF_sp (pl : List Nat) (t d : Addr) : (SF pl t d).lookup ("spelled" : Str) = some (.ref d) := by
  unfold SF
  rw [lookup_putF, if_pos rfl]
def sgP (p : Nat × List Nat) : PyData := .tuple [dS [p.1], dS p.2]
def sgT (ps : Tb) : PyData := .tuple (ps.map sgP)
def all (pl : List Nat) (ps : Tb) : Tb := (48, pl) :: ps
structure SgAt (C : Addr) (H : Hp) (a dx t d : Addr) (pl : List Nat) (ps : Tb) : Prop where
  ob : H a = some (.ins C dx (SF pl t d))
  sg : At H (.ref t) (sgT ps)
  sp : H d = some (.dK (tblK (all pl ps)))
  lp : pl.length ≤ 24
  ls : ps.length ≤ 4
  lw : ∀ p ∈ ps, p.2.length ≤ 12
def Sg (C : Addr) (H : Hp) (a : Addr) (pl : List Nat) (ps : Tb) : Prop := ∃ dx t d, SgAt C H a dx t d pl ps
theorem SgAt.same {C a dx t d : Addr} {H H' : Hp} {pl : List Nat} {ps : Tb} (h : SgAt C H a dx t d pl ps) (s : Same H H') : SgAt C H' a dx t d pl ps := ⟨s _ _ h.ob, h.sg.same s, s _ _ h.sp, h.lp, h.ls, h.lw⟩
theorem Sg.same {C a : Addr} {H H' : Hp} {pl : List Nat} {ps : Tb} (h : Sg C H a pl ps) (s : Same H H') : Sg C H' a pl ps := by
  obtain ⟨dx, t, d, h⟩ := h
  exact ⟨dx, t, d, h.same s⟩
def badPc (t : Tb) (l : List Nat) : Option Nat := l.findIdx? fun c => (t.lookup c).isNone
theorem badPc_none {t : Tb} {l : List Nat} (h : ∀ c ∈ l, (t.lookup c).isSome = true) : badPc t l = none := by
  unfold badPc
  rw [List.findIdx?_eq_none_iff]
  intro x hx
  have := h x hx
  cases e : t.lookup x with
  | none => rw [e] at this; cases this
  | some v => rfl
theorem badPc_some {t : Tb} {l : List Nat} {n c : Nat} (h : l[n]? = some c) (hc : t.lookup c = none) (hb : ∀ k < n, ∀ c, l[k]? = some c → (t.lookup c).isSome = true) : badPc t l = some n := by
  unfold badPc
  rw [List.findIdx?_eq_some_iff_getElem]
  obtain ⟨hp, e⟩ := List.getElem?_eq_some_iff.mp h
  refine ⟨hp, by simp [e, hc], fun j hj => ?_⟩
  have := hb j hj (l[j]) (List.getElem?_eq_getElem (by omega))
  cases e : t.lookup l[j] with
  | none => rw [e] at this; cases this
  | some v => simp
def rowOf (t : Tb) (l : List Nat) : List Nat := (l.map fun c => (t.lookup c).getD []).flatten
theorem look_mem {t : Tb} {c : Nat} {w : List Nat} (h : t.lookup c = some w) : (c, w) ∈ t := by
  induction t with
  | nil => cases h
  | cons p r ih =>
    obtain ⟨k, v⟩ := p
    rw [List.lookup_cons] at h
    by_cases e : c = k
    · subst e
      rw [show (c == c) = true by simp] at h
      cases h
      exact List.mem_cons_self ..
    · rw [show (c == k) = false by simpa using e] at h
      exact List.mem_cons_of_mem _ (ih h)
theorem kept_str (l : List Nat) (g : Nat → List Nat) : kept (fun _ => true) (fun i => S (g (l.getD i 0))) l.length = (l.map g).map S := by
  have key : ∀ n, n ≤ l.length → kept (fun _ => true) (fun i => S (g (l.getD i 0))) n = ((l.take n).map g).map S := fun n => by
    induction n with
    | zero => intro _; rfl
    | succ n ih =>
      intro hn
      have hg : l[n]? = some (l.getD n 0) := by rw [List.getD_eq_getElem?_getD, List.getElem?_eq_getElem (by omega)]; rfl
      have tk : l.take (n + 1) = l.take n ++ [l.getD n 0] := by rw [List.take_succ, hg]; rfl
      rw [tk, List.map_append, List.map_append, ← ih (by omega), kept_yes (f := fun _ => true) rfl]
      rfl
  have := key _ (Nat.le_refl _)
  rw [List.take_length] at this
  exact this
theorem row_len {t : Tb} (h : ∀ p ∈ t, p.2.length ≤ 24) : ∀ l : List Nat, ((l.map fun c => (t.lookup c).getD []).map List.length).sum ≤ 24 * l.length
  | [] => Nat.le_refl _
  | c :: r => by
    have ih := row_len h r
    have h1 : ((t.lookup c).getD []).length ≤ 24 := by
      cases e : t.lookup c with
      | none => exact Nat.zero_le _
      | some w => exact h _ (look_mem e)
    simp only [List.map_cons, List.sum_cons, List.length_cons]
    simp only [List.map_map] at ih ⊢
    omega
section
variable {P : Program} {w : World} {K : PySem.W.Frag} {mg : Str → Option Value} {base : Heap} {C_GlimError C_BadRow C_BadRound C_BadSignal C_BadMessage C_Signals C_dt_Signals___init__ : Addr}
def p_wrong_piece (C : Addr) : P2 := fun x y H Q _ => ∃ a pl ps l, x = .ref a ∧ y = S l ∧ Sg C H a pl ps ∧ l.length ≤ 10000 ∧ ∀ H', Same H H' → Q (oV (badPc (all pl ps) l)) H'
theorem ok_wrong_piece (T : Txt K mg C_GlimError C_BadRow C_BadRound C_BadSignal C_BadMessage C_Signals C_dt_Signals___init__) : OK P w K mg base CX0 1 "wrong_piece" ["signals", "message"] (sp2  (p_wrong_piece C_Signals)) := by
  refine OK.mk (k := 0) T.d_wrong_piece sc_wrong_piece len2 fun f cdv A outer s H vs Q E hr h => ?_
  obtain ⟨x, y, rfl, h⟩ := h
  refine ⟨_, (pss_cons (ps_for PassesOwn.never rfl (piEnum K rfl T.b_enumerate (pa_cons (pv 1) pa_nil)) (pgTup (n := 2) K rfl (pgs_cons (pg_name (i := 2) sc_wrong_piece.nd rfl (Or.inl rfl)) (pgs_cons (pg_name (i := 3) sc_wrong_piece.nd rfl (Or.inl rfl)) pgs_nil))) (pss_one (ps_if (pt_cmp (pc_dnotin (hu_of hr) (pv 3) (peFld K (pv 0)))) (pss_one (ps_ret (pv 2))) pss_nil))) (pss_one (ps_ret pe_non))), ?_⟩
  show (_ : TS) { nx := fun _ H' => Q .non H', rt := Q } [some x, some y, none, none] H
  obtain ⟨a, pl, ps, l, rfl, rfl, ⟨dx, t, d, sg⟩, hl, q⟩ := h
  walk_at "go"
  refine f_enumS (z := l) (fun R k => by walk_at "go"; exact k) (fun i σ H' => ∃ v1 v2, σ = [some (.ref a), some (S l), v1, v2] ∧ Same H H' ∧ ∀ k < i, ∀ c, l[k]? = some c → ((all pl ps).lookup c).isSome = true) ⟨none, none, rfl, Same.refl H, by omega⟩ ?_ ?_
  · rintro i c σ H' Tt hc ⟨v1, v2, rfl, s1, hb⟩ nT
    show (_ : TS) _ [some (.ref a), some (S l), some (.int (i : Int)), some (S [c])] _
    have s2 := s1.trans (same_upd (o := .tup [.int (i : Int), S [c]]) nT)
    have sg2 := sg.same s2
    walk_at "go"
    refine i_fld sg2.ob T.cl_Signals T.na_Signals_spelled (SF_sp ..) ?_
    refine dk_ask (l := [c]) sg2.sp ?_
    rw [tbl_val]
    cases e : (all pl ps).lookup c with
    | none =>
      have := q _ s2
      rw [badPc_some hc e hb] at this
      simp only [Option.map_none, Option.isSome_none]
      walk_at "go"
      exact this
    | some w =>
      simp only [Option.map_some, Option.isSome_some]
      walk_at "go"
      refine ⟨_, _, rfl, s2, fun k hk c' hc' => ?_⟩
      by_cases e' : k < i
      · exact hb k e' c' hc'
      · have : k = i := by omega
        subst this
        rw [hc] at hc'
        cases hc'
        rw [e]; rfl
  · rintro σ H' ⟨v1, v2, rfl, s1, hb⟩
    walk_at "go"
    have := q _ s1
    rw [badPc_none fun c hc => by
      obtain ⟨k, hk⟩ := List.getElem?_of_mem hc
      exact hb k (List.getElem?_eq_some_iff.mp hk).1 c hk] at this
    exact this
def p_message_row (C : Addr) : P2 := fun x y H Q _ => ∃ a pl ps l, x = .ref a ∧ y = S l ∧ Sg C H a pl ps ∧ l.length ≤ 100 ∧ badPc (all pl ps) l = none ∧ ∀ H', Same H H' → Q (S (rowOf (all pl ps) l)) H'
theorem ok_message_row (T : Txt K mg C_GlimError C_BadRow C_BadRound C_BadSignal C_BadMessage C_Signals C_dt_Signals___init__) : OK P w K mg base CX0 1 "message_row" ["signals", "message"] (sp2  (p_message_row C_Signals)) := by
  refine OK.mk (k := 0) T.d_message_row sc_message_row len2 fun f cdv A outer s H vs Q E hr h => ?_
  obtain ⟨x, y, rfl, h⟩ := h
  refine ⟨_, (pss_one (ps_ret (peJoin K (pe_S []) (pe_lc (own := [("piece", 2)]) (g := gName 2) (tt := tYes) (by rfl) sc_message_row.nd (piAny K (pv 1)) (blkOk_by (own := [("piece", 2)]) (N := ["signals", "message", "piece"]) (sc := (defScope s_message_row)) (by decide +kernel)) (fun _ _ _ _ _ => (pg_name (i := 2) sc_message_row.nd rfl (Or.inl rfl))) (fun _ _ _ _ _ => pts_nil) (fun _ _ _ _ _ => (pe_dget (hu_of hr) (peFld K (pv 0)) (pv 2) (fun _ _ => rfl))))))), ?_⟩
  show (_ : TS) { nx := fun _ H' => Q .non H', rt := Q } [some x, some y, none] H
  obtain ⟨a, pl, ps, l, rfl, rfl, ⟨dx, t, d, sg⟩, hl, hb, q⟩ := h
  have fnd : ∀ c ∈ l, ((all pl ps).lookup c).isSome = true := fun c hc => by
    unfold badPc at hb
    rw [List.findIdx?_eq_none_iff] at hb
    have := hb c hc
    cases e : (all pl ps).lookup c with
    | none => rw [e] at this; cases this
    | some v => rfl
  walk_at "go"
  refine c_str (z := l) (fun R k => by walk_at "go"; exact k) (by omega) (fun _ => true) (fun i => S (((all pl ps).lookup (l.getD i 0)).getD [])) (fun _ => rfl) (fun i c H2 hi s2 QB k => ?_) (fun i c H2 hi s2 _ QV k => ?_) (fun Dl H2 n2 s2 d2 => ?_)
  · walk_at "go"
    exact k H2 (Same.refl H2)
  · have sg2 := sg.same s2
    show (_ : TE) [some (.ref a), some (S l), some (S [c])] H2 QV
    have ec : l.getD i 0 = c := by rw [List.getD_eq_getElem?_getD, hi]; rfl
    have fc := fnd c (List.mem_of_getElem? hi)
    walk_at "go"
    refine i_fld sg2.ob T.cl_Signals T.na_Signals_spelled (SF_sp ..) ?_
    walk_at "go"
    cases e : (all pl ps).lookup c with
    | none => rw [e] at fc; cases fc
    | some w =>
      refine dk_get (l := [c]) (v := S w) sg2.sp (by rw [tbl_val, e]; rfl) ?_
      have := k H2 (Same.refl H2)
      rw [ec, e] at this
      exact this
  · have ek : kept (fun _ => true) (fun i => S (((all pl ps).lookup (l.getD i 0)).getD [])) l.length = (l.map fun c => ((all pl ps).lookup c).getD []).map S := kept_str l fun c => ((all pl ps).lookup c).getD []
    rw [ek] at d2
    have wl : ∀ p ∈ all pl ps, p.2.length ≤ 24 := fun p hp => by
      rcases List.mem_cons.mp hp with rfl | hp
      · exact sg.lp
      · have := sg.lw p hp; omega
    have hr := row_len wl l
    walk_at "go"
    refine i_join0 (.inl (.inl d2)) (by omega) ?_
    exact q H2 s2
end
end K75
namespace K75
open PySem PySem.Spec PyProof.Rows L2 Fg
local macro_rules | `(tactic| walk_at "sq") => `(tactic| first
  | assumption
  | exact .inl (.inl (by assumption))
  | exact .inl (.inl upd_same))
local macro_rules | `(tactic| walk_at "st") => `(tactic| first
  | assumption
  | exact .inl (.inl (by assumption))
  | exact .inl (.inl upd_same))
local macro_rules | `(tactic| walk_at "o") => `(tactic| first
  | omega
  | assumption
  | (simp only [List.length_append, List.length_take, List.length_drop, List.length_cons, List.length_nil, List.length_singleton, List.length_map, List.length_range, Int.toNat_natCast] ; omega))
local macro_rules | `(tactic| walk_at "s") => `(tactic| first
  | (with_reducible refine i_seq ?_)
  | (with_reducible refine i_asg ?_)
  | ((with_reducible refine' i_var ?h1 ?_); (case h1 => rfl))
  | (with_reducible refine i_c ?_)
  | ((with_reducible refine' i_gname' ?h1 ?_); (case h1 => (simp only [List.set_cons_zero, List.set_cons_succ]; rfl)))
  | (with_reducible refine i_op ?_)
  | (with_reducible refine i_ifS ?_)
  | (with_reducible refine i_for ?_)
  | (with_reducible refine i_test ?_)
  | (with_reducible refine i_B ?_)
  | (with_reducible refine i_exbl ?_)
  | (with_reducible refine i_exint ?_)
  | (with_reducible refine i_cb ?_)
  | (with_reducible refine i_nil ?_)
  | (with_reducible refine i_cons ?_)
  | (with_reducible refine i_ret ?_)
  | (with_reducible refine i_sl ?_)
  | (with_reducible refine i_nopart ?_)
  | (with_reducible refine i_part ?_)
  | (with_reducible refine i_add_int ?_)
  | (with_reducible refine i_sub ?_)
  | (with_reducible refine i_lt ?_)
  | ((with_reducible refine' i_mod ?h1 ?_); (case h1 => walk_at "o"))
  | ((with_reducible refine' i_fdiv ?h1 ?_); (case h1 => (refine cdiv_small ?_ ?_ <;> walk_at "o")))
  | ((with_reducible refine' i_sl_to ?h1 ?h2 ?_); (case h1 => walk_at "o"); (case h2 => walk_at "o"))
  | ((with_reducible refine' i_sl_from ?h1 ?h2 ?_); (case h1 => walk_at "o"); (case h2 => walk_at "o"))
  | ((with_reducible refine' i_add_str ?h1 ?_); (case h1 => walk_at "o"))
  | ((with_reducible refine' i_mul_int ?h1 ?_); (case h1 => first | (refine mul_small ?_ ?_ <;> walk_at "o") | (refine mul_smallR ?_ ?_ <;> walk_at "o")))
  | (with_reducible refine i_le ?_)
  | (with_reducible refine i_gt ?_)
  | (with_reducible refine i_ge ?_)
  | (with_reducible refine i_eq_int ?_)
  | (with_reducible refine i_eq_str ?_)
  | (with_reducible refine i_ne_int ?_)
  | (with_reducible refine i_ne_str ?_)
  | (with_reducible refine i_eq_bl ?_)
  | (with_reducible refine i_ne_bl ?_)
  | (with_reducible refine i_in_sg ?_)
  | (with_reducible refine i_notIn_sg ?_)
  | (with_reducible refine i_call ?_)
  | (with_reducible refine i_callS ?_)
  | (with_reducible refine i_sp1 ?_)
  | (with_reducible refine i_sp2 ?_)
  | (with_reducible refine i_sp3 ?_)
  | (with_reducible refine i_sp4 ?_)
  | (with_reducible refine i_sp1' ?_)
  | (with_reducible refine i_sp2' ?_)
  | (with_reducible refine i_sp3' ?_)
  | ((with_reducible refine' i_ix_lst ?h1 ?h2 ?_); (case h1 => walk_at "sq"); (case h2 => first | exact atI_nat rfl | rfl))
  | ((with_reducible refine' i_ix_tup ?h1 ?h2 ?_); (case h1 => walk_at "st"); (case h2 => first | exact atI_nat rfl | rfl))
  | (with_reducible refine i_gsub ?_)
  | (with_reducible refine i_par ?_)
  | (with_reducible refine i_lstRg1 ?_)
  | (with_reducible refine i_app ?_)
  | (with_reducible refine i_par2 ?_)
  | ((with_reducible refine' i_aug ?h1 ?_); (case h1 => rfl))
  | (with_reducible refine i_ipI ?_)
  | ((with_reducible refine' i_gtup2 ?h1 ?_); (case h1 => walk_at "st"))
  | (with_reducible refine i_int_bl ?_)
  | (with_reducible refine i_raise ?_)
  | (with_reducible refine i_mkE ?_)
  | (with_reducible refine i_ex1 ?_)
  | (with_reducible refine i_and ?_)
  | (with_reducible refine i_or ?_)
  | (with_reducible refine i_not ?_)
  | (with_reducible refine i_tt ?_)
  | (with_reducible refine i_ff ?_)
  | (with_reducible refine i_nott ?_)
  | (with_reducible refine i_notf ?_)
  | (with_reducible refine i_andV ?_)
  | (with_reducible refine i_orV ?_)
  | (with_reducible refine i_notV ?_)
  | (with_reducible refine i_ifE ?_)
  | (with_reducible refine i_tup ?_)
  | (with_reducible refine i_lst ?_)
  | (with_reducible refine i_un ?_)
  | (with_reducible refine i_neg ?_)
  | (with_reducible refine i_chain ?_)
  | (with_reducible refine i_next ?_)
  | (with_reducible refine i_retN ?_)
  | (with_reducible refine i_drop ?_)
  | (with_reducible refine i_int_int ?_)
  | (with_reducible refine i_abs ?_)
  | (with_reducible refine i_m1c ?_)
  | (with_reducible refine i_is_non ?_)
  | (with_reducible refine i_is_int ?_)
  | (with_reducible refine i_is_bl ?_)
  | (with_reducible refine i_isn_bl ?_)
  | (with_reducible refine i_is_str ?_)
  | (with_reducible refine i_is_ref ?_)
  | (with_reducible refine i_isn_non ?_)
  | (with_reducible refine i_isn_int ?_)
  | (with_reducible refine i_isn_str ?_)
  | (with_reducible refine i_isn_ref ?_)
  | (with_reducible refine i_len_str ?h1 ?_; (case h1 => walk_at "o"))
  | (with_reducible refine i_callD ?_)
  | (with_reducible refine i_spD2 ?_)
  | (with_reducible refine i_spM1 ?_)
  | (with_reducible refine i_spM2 ?_)
  | (with_reducible refine i_spM3 ?_)
  | (with_reducible refine i_spM4 ?_)
  | (with_reducible refine i_spM3d ?_)
  | (with_reducible refine i_tfld ?_)
  | (with_reducible refine i_sfld ?_)
  | (with_reducible refine i_meth ?_)
  | (with_reducible refine i_make ?_)
  | (with_reducible refine i_spl ?_)
  | (with_reducible refine i_mkE2 ?_)
  | (with_reducible refine i_ex2 ?_)
  | (with_reducible refine i_dget ?_)
  | (with_reducible refine i_tru ?_)
  | (with_reducible refine i_dput ?_)
  | (with_reducible refine i_dnotin ?_)
  | (with_reducible refine i_din ?_)
  | (with_reducible refine i_rev ?_)
  | (with_reducible refine i_isi_int_int ?_) | (with_reducible refine i_isi_int_bool ?_) | (with_reducible refine i_isi_int_str ?_) | (with_reducible refine i_isi_int_tuple ?_) | (with_reducible refine i_isi_int_list ?_)
  | (with_reducible refine i_isi_bl_int ?_) | (with_reducible refine i_isi_bl_bool ?_) | (with_reducible refine i_isi_bl_str ?_) | (with_reducible refine i_isi_bl_tuple ?_) | (with_reducible refine i_isi_bl_list ?_)
  | (with_reducible refine i_isi_str_int ?_) | (with_reducible refine i_isi_str_bool ?_) | (with_reducible refine i_isi_str_str ?_) | (with_reducible refine i_isi_str_tuple ?_) | (with_reducible refine i_isi_str_list ?_)
  | (with_reducible refine i_isi_non_int ?_) | (with_reducible refine i_isi_non_bool ?_) | (with_reducible refine i_isi_non_str ?_) | (with_reducible refine i_isi_non_tuple ?_) | (with_reducible refine i_isi_non_list ?_))
local macro_rules | `(tactic| walk_at "go") => `(tactic| (repeat' (walk_at "s")))
local macro_rules | `(tactic| walk_at "n") => `(tactic| simp only [wipe, List.map_cons, List.map_nil, List.set_cons_zero, List.set_cons_succ])
/-! ### the methods -/
theorem sgT_len (ps : Tb) : (ps.map sgP).length = ps.length := List.length_map ..
/-- what a call answers -/
def calL (t : Tb) (l : List Nat) : Int ⊕ List Nat := if l.length ≤ 100 then match badPc t l with
  | some n => .inl (n : Int)
  | none => .inr (rowOf t l) else .inl (-1)
def calD (t : Tb) : PyData → Int ⊕ List Nat
  | .str x => calL t x.cps.toList
  | _ => .inl (-1)
theorem tbl_keys (t : Tb) : (tblK t).map (fun kv => kV kv.1) = (t.map fun p => [p.1]).map S := by
  unfold tblK
  rw [List.map_map, List.map_map]
  rfl
section
variable {P : Program} {w : World} {K : PySem.W.Frag} {mg : Str → Option Value} {base : Heap} {C_GlimError C_BadRow C_BadRound C_BadSignal C_BadMessage C_Signals C_dt_Signals___init__ : Addr}
theorem ok_Signals___len__ (T : Txt K mg C_GlimError C_BadRow C_BadRound C_BadSignal C_BadMessage C_Signals C_dt_Signals___init__) : DOK P w K mg base CX0 1 C_Signals "__len__" ["self"] (spLen K C_Signals "signals") := by
  refine DOK.mk (k := 0) T.m_Signals___len__ sc_Signals___len__ len1 fun f cdv A outer s H vs Q E hr h => ?_
  obtain ⟨x, rfl, h⟩ := h
  refine ⟨_, (pss_one (ps_ret (pe_callB (cLen K) (by rfl) T.b_len (by decide +kernel) (pa_cons (peFld K (pv 0)) pa_nil)))), ?_⟩
  show (_ : TS) { nx := fun _ H' => Q .non H', rt := Q } [some x] H
  obtain ⟨a, dx, fs, t, zs, rfl, ha, hl, hq, q⟩ := h
  walk_at "go"
  refine i_fld ha T.cl_Signals T.na_Signals_signals hl ?_
  walk_at "go"
  exact i_len_tup hq q
theorem ok_Signals___iter__ (T : Txt K mg C_GlimError C_BadRow C_BadRound C_BadSignal C_BadMessage C_Signals C_dt_Signals___init__) : (IOK P w K mg base CX0 1 C_Signals  "signals") := by
  refine IOK.mk (k := 0) T.m_Signals___iter__ sc_Signals___iter__ fun f cdv A outer s H vs Q E hr h => ?_
  obtain ⟨x, rfl, h⟩ := h
  refine ⟨_, (pss_one (ps_ret (pe_callB (Fg.cIterT K) (by rfl) T.b_iter (by decide +kernel) (pa_cons (peFld K (pv 0)) pa_nil)))), ?_⟩
  show (_ : TS) { nx := fun _ H' => Q .non H', rt := Q } [some x] H
  obtain ⟨a, dx, fs, t, zs, rfl, ha, hl, hq, q⟩ := h
  walk_at "go"
  refine i_fld ha T.cl_Signals T.na_Signals_signals hl ?_
  walk_at "go"
  exact ⟨t, zs, rfl, hq, fun it n1 n2 => q it n1 n2⟩
def p_pieces (C : Addr) : P1 := fun x H Q _ => ∃ a pl ps, x = .ref a ∧ Sg C H a pl ps ∧ ∀ H', Same H H' → Q (S ((all pl ps).map (·.1))) H'
theorem ok_Signals_pieces (T : Txt K mg C_GlimError C_BadRow C_BadRound C_BadSignal C_BadMessage C_Signals C_dt_Signals___init__) : POK P w K mg base 1 C_Signals "pieces" (sp1  (p_pieces C_Signals)) := by
  refine POK.mk (k := 0) T.m_Signals_pieces sc_Signals_pieces (len1 (a := "self")) fun f cdv A outer s H vs Q E hr h => ?_
  obtain ⟨x, rfl, h⟩ := h
  refine ⟨_, (pss_one (ps_ret (peJoin K (pe_S []) (pe_callTy (Fg.cListK K) (by rfl) T.b_list (by decide +kernel) (pa_cons (peFld K (pv 0)) pa_nil))))), ?_⟩
  show (_ : TS) { nx := fun _ H' => Q .non H', rt := Q } [some x] H
  obtain ⟨a, pl, ps, rfl, ⟨dx, t, d, sg⟩, q⟩ := h
  walk_at "go"
  refine i_fld sg.ob T.cl_Signals T.na_Signals_spelled (SF_sp ..) ?_
  walk_at "go"
  refine i_listK sg.sp fun p np => ?_
  walk_at "go"
  rw [tbl_keys]
  have hl := sg.ls
  refine i_join1 (cs := (all pl ps).map (·.1)) (.inl (.inl ?_)) (by rw [List.length_map]; show ps.length + 1 ≤ 100000; omega) ?_
  · rw [upd_same, List.map_map, List.map_map]; rfl
  · exact q _ (same_upd np)
def p_call (C CB : Addr) : P2 := fun x y H Q E => ∃ a pl ps d, x = .ref a ∧ Sg C H a pl ps ∧ At H y d ∧ (match calD (all pl ps) d with
  | .inl n => Rz E H CB "number" (.int n)
  | .inr l => ∀ H', Same H H' → Q (S l) H')
theorem ok_Signals___call__ (T : Txt K mg C_GlimError C_BadRow C_BadRound C_BadSignal C_BadMessage C_Signals C_dt_Signals___init__) : DOK P w K mg base (L2.CX P w) 3 C_Signals "__call__" ["self", "message"] (sp2  (p_call C_Signals C_BadMessage)) := by
  refine DOK.mkX (k := 2) T.m_Signals___call__ sc_Signals___call__ len2 fun f cdv A outer s H vs Q E hr h => ?_
  obtain ⟨x, y, rfl, h⟩ := h
  refine ⟨_, (pss_cons (ps_if (pw_or (pt_not (pt_val (pe_callB (cIsi K) (by rfl) T.b_isinstance (by decide +kernel) (pa_cons (pv 1) (pa_cons (pe_bltn (v := .ty "str") (by rfl) T.b_str (by decide +kernel) rfl) pa_nil))))) (pw_or1 (pt_cmpR op_gtP (pe_callB (cLen K) (by rfl) T.b_len (by decide +kernel) (pa_cons (pv 1) pa_nil)) (pe_gI (100) T.g_MOST_PIECES) (nomark _)))).pt (pss_one (ps_raiseP rfl (takes_of rfl rfl rfl rfl) (pmk_E (k := 0) (okx_BadMessage T) (hr.mono (by decide)) (pa_cons (pe_un un_neg pe_int) pa_nil)))) pss_nil) (pss_cons (ps_set (i := 2) sc_Signals___call__.nd rfl (Or.inl rfl) (pe_f (ok_wrong_piece (K := K) T) (hr.mono (by decide)) pass0 (pa_cons (pv 0) (pa_cons (pv 1) pa_nil)))) (pss_cons (ps_if (pt_cmpR op_isNotP (pv 2) pe_non (nomark _)) (pss_one (ps_raiseP rfl (takes_of rfl rfl rfl rfl) (pmk_E (k := 0) (okx_BadMessage T) (hr.mono (by decide)) (pa_cons (pv 2) pa_nil)))) pss_nil) (pss_one (ps_ret (pe_f (ok_message_row (K := K) T) (hr.mono (by decide)) pass0 (pa_cons (pv 0) (pa_cons (pv 1) pa_nil)))))))), ?_⟩
  show (_ : TS) { nx := fun _ H' => Q .non H', rt := Q } [some x, some y, none] H
  obtain ⟨a, pl, ps, d, rfl, sg, hy, q⟩ := h
  cases d
  case str z =>
    obtain ⟨l, rfl, rfl, hl⟩ := hy.strl
    change (match calL (all pl ps) l with
      | .inl n => Rz E H C_BadMessage "number" (.int n)
      | .inr l => ∀ H', Same H H' → Q (S l) H') at q
    unfold calL at q
    walk_at "go"
    refine i_dec (fun e => ?_) (fun e => ?_)
    · rw [if_neg (by omega)] at q
      walk_at "go"
      intro dd nd
      exact Rz.at q nd
    rw [if_pos (by omega)] at q
    walk_at "go"
    refine ⟨a, pl, ps, l, rfl, rfl, sg, hl, fun H1 s1 => ?_⟩
    cases eb : badPc (all pl ps) l with
    | none =>
      rw [eb] at q
      rw [show oV none = V.non from rfl]
      walk_at "go"
      exact ⟨a, pl, ps, l, rfl, rfl, sg.same s1, by omega, eb, fun H2 s2 => q H2 (s1.trans s2)⟩
    | some n =>
      rw [eb] at q
      rw [show oV (some n) = V.int (n : Int) from rfl]
      walk_at "go"
      intro dd nd
      exact Rz.at (Rz.mono q s1) nd
  all_goals
    walk_at "go"
    refine i_isiStr false hy rfl ?_
    walk_at "go"
    intro dd nd
    exact Rz.at q nd
end
end K75
namespace K75
open PySem PySem.Spec PyProof.Rows L2 Fg
local macro_rules | `(tactic| walk_at "sq") => `(tactic| first
  | assumption
  | exact .inl (.inl (by assumption))
  | exact .inl (.inl upd_same))
local macro_rules | `(tactic| walk_at "st") => `(tactic| first
  | assumption
  | exact .inl (.inl (by assumption))
  | exact .inl (.inl upd_same))
local macro_rules | `(tactic| walk_at "o") => `(tactic| first
  | omega
  | assumption
  | (simp only [List.length_append, List.length_take, List.length_drop, List.length_cons, List.length_nil, List.length_singleton, List.length_map, List.length_range, Int.toNat_natCast] ; omega))
local macro_rules | `(tactic| walk_at "s") => `(tactic| first
  | (with_reducible refine i_seq ?_)
  | (with_reducible refine i_asg ?_)
  | ((with_reducible refine' i_var ?h1 ?_); (case h1 => rfl))
  | (with_reducible refine i_c ?_)
  | ((with_reducible refine' i_gname' ?h1 ?_); (case h1 => (simp only [List.set_cons_zero, List.set_cons_succ]; rfl)))
  | (with_reducible refine i_op ?_)
  | (with_reducible refine i_ifS ?_)
  | (with_reducible refine i_for ?_)
  | (with_reducible refine i_test ?_)
  | (with_reducible refine i_B ?_)
  | (with_reducible refine i_exbl ?_)
  | (with_reducible refine i_exint ?_)
  | (with_reducible refine i_cb ?_)
  | (with_reducible refine i_nil ?_)
  | (with_reducible refine i_cons ?_)
  | (with_reducible refine i_ret ?_)
  | (with_reducible refine i_sl ?_)
  | (with_reducible refine i_nopart ?_)
  | (with_reducible refine i_part ?_)
  | (with_reducible refine i_add_int ?_)
  | (with_reducible refine i_sub ?_)
  | (with_reducible refine i_lt ?_)
  | ((with_reducible refine' i_mod ?h1 ?_); (case h1 => walk_at "o"))
  | ((with_reducible refine' i_fdiv ?h1 ?_); (case h1 => (refine cdiv_small ?_ ?_ <;> walk_at "o")))
  | ((with_reducible refine' i_sl_to ?h1 ?h2 ?_); (case h1 => walk_at "o"); (case h2 => walk_at "o"))
  | ((with_reducible refine' i_sl_from ?h1 ?h2 ?_); (case h1 => walk_at "o"); (case h2 => walk_at "o"))
  | ((with_reducible refine' i_add_str ?h1 ?_); (case h1 => walk_at "o"))
  | ((with_reducible refine' i_mul_int ?h1 ?_); (case h1 => first | (refine mul_small ?_ ?_ <;> walk_at "o") | (refine mul_smallR ?_ ?_ <;> walk_at "o")))
  | (with_reducible refine i_le ?_)
  | (with_reducible refine i_gt ?_)
  | (with_reducible refine i_ge ?_)
  | (with_reducible refine i_eq_int ?_)
  | (with_reducible refine i_eq_str ?_)
  | (with_reducible refine i_ne_int ?_)
  | (with_reducible refine i_ne_str ?_)
  | (with_reducible refine i_eq_bl ?_)
  | (with_reducible refine i_ne_bl ?_)
  | (with_reducible refine i_in_sg ?_)
  | (with_reducible refine i_notIn_sg ?_)
  | (with_reducible refine i_call ?_)
  | (with_reducible refine i_callS ?_)
  | (with_reducible refine i_sp1 ?_)
  | (with_reducible refine i_sp2 ?_)
  | (with_reducible refine i_sp3 ?_)
  | (with_reducible refine i_sp4 ?_)
  | (with_reducible refine i_sp1' ?_)
  | (with_reducible refine i_sp2' ?_)
  | (with_reducible refine i_sp3' ?_)
  | ((with_reducible refine' i_ix_lst ?h1 ?h2 ?_); (case h1 => walk_at "sq"); (case h2 => first | exact atI_nat rfl | rfl))
  | ((with_reducible refine' i_ix_tup ?h1 ?h2 ?_); (case h1 => walk_at "st"); (case h2 => first | exact atI_nat rfl | rfl))
  | (with_reducible refine i_gsub ?_)
  | (with_reducible refine i_par ?_)
  | (with_reducible refine i_lstRg1 ?_)
  | (with_reducible refine i_app ?_)
  | (with_reducible refine i_par2 ?_)
  | ((with_reducible refine' i_aug ?h1 ?_); (case h1 => rfl))
  | (with_reducible refine i_ipI ?_)
  | ((with_reducible refine' i_gtup2 ?h1 ?_); (case h1 => walk_at "st"))
  | (with_reducible refine i_int_bl ?_)
  | (with_reducible refine i_raise ?_)
  | (with_reducible refine i_mkE ?_)
  | (with_reducible refine i_ex1 ?_)
  | (with_reducible refine i_and ?_)
  | (with_reducible refine i_or ?_)
  | (with_reducible refine i_not ?_)
  | (with_reducible refine i_tt ?_)
  | (with_reducible refine i_ff ?_)
  | (with_reducible refine i_nott ?_)
  | (with_reducible refine i_notf ?_)
  | (with_reducible refine i_andV ?_)
  | (with_reducible refine i_orV ?_)
  | (with_reducible refine i_notV ?_)
  | (with_reducible refine i_ifE ?_)
  | (with_reducible refine i_tup ?_)
  | (with_reducible refine i_lst ?_)
  | (with_reducible refine i_un ?_)
  | (with_reducible refine i_neg ?_)
  | (with_reducible refine i_chain ?_)
  | (with_reducible refine i_next ?_)
  | (with_reducible refine i_retN ?_)
  | (with_reducible refine i_drop ?_)
  | (with_reducible refine i_int_int ?_)
  | (with_reducible refine i_abs ?_)
  | (with_reducible refine i_m1c ?_)
  | (with_reducible refine i_is_non ?_)
  | (with_reducible refine i_is_int ?_)
  | (with_reducible refine i_is_bl ?_)
  | (with_reducible refine i_isn_bl ?_)
  | (with_reducible refine i_is_str ?_)
  | (with_reducible refine i_is_ref ?_)
  | (with_reducible refine i_isn_non ?_)
  | (with_reducible refine i_isn_int ?_)
  | (with_reducible refine i_isn_str ?_)
  | (with_reducible refine i_isn_ref ?_)
  | (with_reducible refine i_len_str ?h1 ?_; (case h1 => walk_at "o"))
  | (with_reducible refine i_callD ?_)
  | (with_reducible refine i_spD2 ?_)
  | (with_reducible refine i_spM1 ?_)
  | (with_reducible refine i_spM2 ?_)
  | (with_reducible refine i_spM3 ?_)
  | (with_reducible refine i_spM4 ?_)
  | (with_reducible refine i_spM3d ?_)
  | (with_reducible refine i_tfld ?_)
  | (with_reducible refine i_sfld ?_)
  | (with_reducible refine i_meth ?_)
  | (with_reducible refine i_make ?_)
  | (with_reducible refine i_spl ?_)
  | (with_reducible refine i_mkE2 ?_)
  | (with_reducible refine i_ex2 ?_)
  | (with_reducible refine i_dget ?_)
  | (with_reducible refine i_tru ?_)
  | (with_reducible refine i_dput ?_)
  | (with_reducible refine i_dnotin ?_)
  | (with_reducible refine i_din ?_)
  | (with_reducible refine i_rev ?_)
  | (with_reducible refine i_isi_int_int ?_) | (with_reducible refine i_isi_int_bool ?_) | (with_reducible refine i_isi_int_str ?_) | (with_reducible refine i_isi_int_tuple ?_) | (with_reducible refine i_isi_int_list ?_)
  | (with_reducible refine i_isi_bl_int ?_) | (with_reducible refine i_isi_bl_bool ?_) | (with_reducible refine i_isi_bl_str ?_) | (with_reducible refine i_isi_bl_tuple ?_) | (with_reducible refine i_isi_bl_list ?_)
  | (with_reducible refine i_isi_str_int ?_) | (with_reducible refine i_isi_str_bool ?_) | (with_reducible refine i_isi_str_str ?_) | (with_reducible refine i_isi_str_tuple ?_) | (with_reducible refine i_isi_str_list ?_)
  | (with_reducible refine i_isi_non_int ?_) | (with_reducible refine i_isi_non_bool ?_) | (with_reducible refine i_isi_non_str ?_) | (with_reducible refine i_isi_non_tuple ?_) | (with_reducible refine i_isi_non_list ?_))
local macro_rules | `(tactic| walk_at "go") => `(tactic| (repeat' (walk_at "s")))
local macro_rules | `(tactic| walk_at "n") => `(tactic| simp only [wipe, List.map_cons, List.map_nil, List.set_cons_zero, List.set_cons_succ])
/-! ### what the checks say; Signals is made -/
theorem sgBad_none : ∀ (ds : List PyData) (used : List (List Nat)) (n : Nat), sgBad used n ds = none → ∃ ps : Tb, ds = ps.map sgP ∧ (∀ p ∈ ps, [p.1] ∉ used ∧ p.1 ∈ AZ ∧ p.2.length ≤ 12 ∧ p.2 ≠ [] ∧ firstBad p.2 = none) ∧ (ps.map (·.1)).Nodup
  | [], _, _, _ => ⟨[], rfl, fun _ h => (List.not_mem_nil h).elim, List.nodup_nil⟩
  | d :: r, used, n, h => by
    have h' : (if isSigD d && !decide (sgKey d ∈ used) then sgBad (sgKey d :: used) (n + 1) r else some n) = none := h
    split at h'
    · rename_i e
      rw [Bool.and_eq_true] at e
      obtain ⟨l, m, rfl, hl, hm, hne⟩ := sig_of e.1
      obtain ⟨ps, rfl, hp, hn⟩ := sgBad_none r _ _ h'
      have hu : l ∉ used := by have e2 := e.2; rw [show sgKey (.tuple [dS l, dS m]) = l from rfl] at e2; simpa using e2
      unfold letL at hl
      rw [Bool.and_eq_true] at hl
      obtain ⟨c, rfl⟩ := List.length_eq_one_iff.mp (of_decide_eq_true hl.1)
      have hc : c ∈ AZ := by have := hl.2; simpa using this
      unfold rowL at hm
      rw [Bool.and_eq_true] at hm
      have hm1 := of_decide_eq_true hm.1
      refine ⟨(c, m) :: ps, rfl, fun p hp' => ?_, ?_⟩
      · rcases List.mem_cons.mp hp' with rfl | hp'
        · exact ⟨hu, hc, (by show m.length ≤ 12; omega), hne, by have := hm.2; simpa using this⟩
        · have := hp p hp'
          exact ⟨fun z => this.1 (List.mem_cons_of_mem _ z), this.2⟩
      · rw [List.map_cons, List.nodup_cons]
        refine ⟨fun z => ?_, hn⟩
        obtain ⟨p, hp', e'⟩ := List.mem_map.mp z
        exact (hp p hp').1 (by rw [e']; exact List.mem_cons_self ..)
    · cases h'
structure GoodT (ps : Tb) : Prop where
  ln : ps.length ≤ 4
  az : ∀ p ∈ ps, p.1 ∈ AZ
  lw : ∀ p ∈ ps, p.2.length ≤ 12
  ne : ∀ p ∈ ps, p.2 ≠ []
  ok : ∀ p ∈ ps, firstBad p.2 = none
  nd : (ps.map (·.1)).Nodup
theorem sgs_of {D : PyData} (h : sgsD D = none) : ∃ ps, D = sgT ps ∧ GoodT ps := by
  cases D with
  | tuple ds =>
    have h' : (if ds.length ≤ 4 then (sgBad [] 0 ds).map fun n : Nat => (n : Int) else some (-1)) = none := h
    split at h'
    · rename_i e
      rw [Option.map_eq_none_iff] at h'
      obtain ⟨ps, rfl, hp, hn⟩ := sgBad_none ds _ _ h'
      rw [List.length_map] at e
      exact ⟨ps, rfl, e, fun p h => (hp p h).2.1, fun p h => (hp p h).2.2.1, fun p h => (hp p h).2.2.2.1, fun p h => (hp p h).2.2.2.2, hn⟩
    · cases h'
  | _ => cases h
theorem rnd_of {d : PyData} (h : rndD d = none) : ∃ pl, d = dS pl ∧ 1 ≤ pl.length ∧ pl.length ≤ 24 ∧ firstBad pl = none := by
  cases d with
  | str x =>
    have h' : rndL x.cps.toList = none := h
    unfold rndL at h'
    split at h'
    · rename_i e
      rw [Option.map_eq_none_iff] at h'
      exact ⟨x.cps.toList, by simp, e.1, e.2, h'⟩
    · cases h'
  | _ => cases h
theorem look_none {t : Tb} {c : Nat} (h : c ∉ t.map (·.1)) : t.lookup c = none := by
  cases e : t.lookup c with
  | none => rfl
  | some w => exact (h (List.mem_map.mpr ⟨_, look_mem e, rfl⟩)).elim
theorem all_nd {pl : List Nat} {ps : Tb} (g : GoodT ps) : ((all pl ps).map (·.1)).Nodup := by
  show ((48 : Nat) :: ps.map (·.1)).Nodup
  rw [List.nodup_cons]
  refine ⟨fun z => ?_, g.nd⟩
  obtain ⟨p, hp, e⟩ := List.mem_map.mp z
  have := g.az p hp
  rw [e] at this
  exact absurd this (by decide)
section
variable {P : Program} {w : World} {K : PySem.W.Frag} {mg : Str → Option Value} {base : Heap} {C_GlimError C_BadRow C_BadRound C_BadSignal C_BadMessage C_Signals C_dt_Signals___init__ : Addr}
theorem noL_sg (ps : Tb) : noL (sgT ps) = true := by
  show noLs (ps.map sgP) = true
  refine noLs_of fun d hd => ?_
  obtain ⟨p, _, rfl⟩ := List.mem_map.mp hd
  rfl
theorem deep_ask {K : PySem.W.Frag} {H : Hp} {R : VK} {E : XK} {z : V} {D : PyData} {CD : Addr} (hz : (∃ d, At H z d ∧ d.depth < 6 ∧ D = deepD d) ∨ (z = .ref CD ∧ D = .tuple []))
    (kd : ∃ o, K.lookup CD = some o ∧ o.cls = .type "tuple" ∧ ∀ H : Hp, SqT K H CD []) (k : ∀ H1 v, Same H H1 → At H1 v D → R v H1) : p_deepE K 6 z (.int 0) H R E := by
  rcases hz with ⟨d, hx, dp, rfl⟩ | ⟨rfl, rfl⟩
  · exact .inl ⟨H, d, 0, Same.refl H, hx, rfl, by decide, by decide, dp, fun A' H' v x hv => k H' v x.gg (hv.same x.ag)⟩
  · obtain ⟨o, ko, kc, kt⟩ := kd
    exact .inr ⟨CD, o, rfl, rfl, by decide, ko, kc, kt, fun H' p s n e => k H' (.ref p) s (.tup e (Nat.zero_le _) .nil)⟩
def p_init (C CD CR CS : Addr) : P3 := fun x y z H Q E => ∃ p dx d1 D, x = .ref p ∧ H p = some (.ins C dx []) ∧ At H y d1 ∧ ((∃ d, At H z d ∧ d.depth < 6 ∧ D = deepD d) ∨ (z = .ref CD ∧ D = .tuple [])) ∧
  (match rndD d1 with
    | some n => Rz E H CR "number" (.int n)
    | none => match sgsD D with
      | some n => Rz E H CS "number" (.int n)
      | none => ∀ pl ps H' t dd, d1 = dS pl → D = sgT ps → But p H H' → SgAt C H' p dx t dd pl ps → Q .non H')
theorem ok_Signals___init__ (T : Txt K mg C_GlimError C_BadRow C_BadRound C_BadSignal C_BadMessage C_Signals C_dt_Signals___init__) : MkOK P w K mg base (L2.CX P w) 7 "Signals" C_Signals ["self", "plain", "signals"] [.ref C_dt_Signals___init__] (sp3  (p_init C_Signals C_dt_Signals___init__ C_BadRound C_BadSignal)) := by
  refine MkOK.mkX (k := 6) T.m_Signals___init__ sc_Signals___init__ len3 fun f cdv A outer s H vs Q E hr h => ?_
  obtain ⟨x, y, z, rfl, h⟩ := h
  refine ⟨_, (pss_cons (ps_set (i := 3) sc_Signals___init__.nd rfl (Or.inl rfl) (pe_fd (ok_deep (K := K) T) (hr.mono (by decide)) pass0 (pa_cons (pv 2) pa_nil))) (pss_cons (ps_expr (pe_f (ok_check_round (K := K) T) (hr.mono (by decide)) (passes_call (takes_of rfl rfl rfl rfl) (fun _ _ _ _ h => h)) (pa_cons (pv 1) pa_nil))) (pss_cons (ps_expr (pe_f (ok_check_signals (K := K) T) (hr.mono (by decide)) (passes_call (takes_of rfl rfl rfl rfl) (fun _ _ _ _ h => h)) (pa_cons (pv 3) pa_nil))) (pss_cons (psFld K (pv 0) (pv 1)) (pss_cons (psFld K (pv 0) (pv 3)) (pss_cons (psFld K (pv 0) (pe_disp (pps_cons (pe_gS [48] T.g_PLAIN) (pv 1) pps_nil) (by rfl) (by rfl) (fun z => by cases z) (by decide))) (pss_one (ps_for (passes_of rfl) rfl (piAny K (pv 3)) (pgTup (n := 2) K rfl (pgs_cons (pg_name (i := 4) sc_Signals___init__.nd rfl (Or.inl rfl)) (pgs_cons (pg_name (i := 5) sc_Signals___init__.nd rfl (Or.inl rfl)) pgs_nil))) (pss_one (ps_dput (hu_of hr) (peFld K (pv 0)) (pv 4) (pv 5) rfl)))))))))), ?_⟩
  show (_ : TS) { nx := fun _ H' => Q .non H', rt := Q } [some x, some y, some z, none, none, none] H
  obtain ⟨p, dx, d1, D, rfl, ob, hy, hz, q⟩ := h
  walk_at "go"
  refine deep_ask hz T.q_dt_Signals___init__ fun H1 v s1 hv => ?_
  walk_at "go"
  refine ⟨d1, hy.same s1, ?_⟩
  cases er : rndD d1 with
  | some n =>
    rw [er] at q
    exact Rz.mono q s1
  | none =>
  rw [er] at q
  obtain ⟨pl, rfl, lp1, lp2, lp3⟩ := rnd_of er
  obtain ⟨l', rfl, el, _⟩ := hy.strl
  obtain rfl : pl = l' := List.toArray_inj (congrArg PySem.Str.cps el)
  intro H2 s2
  walk_at "go"
  have s12 := s1.trans s2
  refine ⟨D, hv.same s2, ?_⟩
  cases es : sgsD D with
  | some n =>
    rw [es] at q
    exact Rz.mono q s12
  | none =>
  rw [es] at q
  obtain ⟨ps, rfl, gd⟩ := sgs_of es
  intro H3 s3
  have s13 := s12.trans s3
  have ob3 := s13 _ _ ob
  have hv3 := hv.same (s2.trans s3)
  obtain ⟨t, xs, rfl, hT, hl, al⟩ := hv3.tupled
  walk_at "go"
  refine i_put ob3 T.cl_Signals T.na_Signals_plain (by show 0 < 1000; decide) ?_
  walk_at "go"
  refine i_put upd_same T.cl_Signals T.na_Signals_signals (by show 1 < 1000; decide) ?_
  walk_at "go"
  refine i_disp1K (l := [48]) (v := S pl) (tk := tC (S [48])) (tv := tVar 1) (σ := [some (V.ref p), some (S pl), some z, some (V.ref t), none, none]) (fun H R k => k) (fun H R k => by walk_at "go"; exact k) fun dd nd => ?_
  have npd : p ≠ dd := fun z => by rw [← z, upd_same] at nd; cases nd
  have n3 : H3 dd = none := by rw [upd_ne (fun z => npd z.symm), upd_ne (fun z => npd z.symm)] at nd; exact nd
  walk_at "go"
  refine i_put ((upd_ne npd).trans upd_same) T.cl_Signals T.na_Signals_spelled (by show 2 < 1000; decide) ?_
  walk_at "go"
  generalize eHb : upd (upd (upd (upd H3 p _) p _) dd _) p _ = Hb
  have hbp : Hb p = some (.ins C_Signals dx (SF pl t dd)) := by rw [← eHb, upd_same]; rfl
  have hbd : Hb dd = some (.dK [(kS [48], S pl)]) := by rw [← eHb, upd_ne (fun z => npd z.symm), upd_same]
  have hbo : ∀ b o, b ≠ p → H3 b = some o → Hb b = some o := fun b o nb e => by
    have n1 : b ≠ dd := fun z => by rw [z, n3] at e; cases e
    rw [← eHb, upd_ne nb, upd_ne n1, upd_ne nb, upd_ne nb]
    exact e
  have ntp : ∀ {b : Addr} {ys : List V}, H3 b = some (.tup ys) → b ≠ p := fun e z => by rw [z, ob3] at e; cases e
  have ntd : ∀ {b : Addr} {o : HO}, H3 b = some o → b ≠ dd := fun e z => by rw [z, n3] at e; cases e
  refine i_forT (a := t) (xs := xs) (.inl (.inl (hbo _ _ (ntp hT) hT))) (fun i σ H' => ∃ v1 v2, σ = [some (V.ref p), some (S pl), some z, some (V.ref t), v1, v2] ∧ (∀ b, b ≠ dd → H' b = Hb b) ∧ H' dd = some (.dK (tblK (all pl (ps.take i)))))
    ⟨none, none, rfl, fun _ _ => rfl, hbd⟩ (fun i σ' H' _ pv => ?_) ?_ ?_
  · obtain ⟨_, _, _, e1, _⟩ := pv
    exact .inl (.inl ((e1 t (ntd hT)).trans (hbo _ _ (ntp hT) hT)))
  · rintro i x σ' H' hi ⟨v1, v2, rfl, e1, e2⟩
    obtain ⟨c, hc, ac⟩ := al.get hi
    rw [List.getElem?_map] at hc
    cases hk : ps[i]? with
    | none => rw [hk] at hc; cases hc
    | some kw =>
    obtain ⟨k, w⟩ := kw
    rw [hk] at hc
    cases hc
    obtain ⟨b, ys, rfl, hb, _, ay⟩ := ac.tupled
    cases ay with
    | cons a1 ay =>
    cases ay with
    | cons a2 ay =>
    cases ay
    obtain ⟨l1, rfl, el1, _⟩ := a1.strl
    obtain rfl : [k] = l1 := List.toArray_inj (congrArg PySem.Str.cps el1)
    obtain ⟨l2, rfl, el2, _⟩ := a2.strl
    obtain rfl : w = l2 := List.toArray_inj (congrArg PySem.Str.cps el2)
    have hb' : H' b = some (.tup [S [k], S w]) := (e1 b (ntd hb)).trans (hbo _ _ (ntp hb) hb)
    have hp' : H' p = some (.ins C_Signals dx (SF pl t dd)) := (e1 p npd).trans hbp
    refine i_gtup2 (SqT.of hb') ?_
    show (_ : TS) _ [some (V.ref p), some (S pl), some z, some (V.ref t), some (S [k]), some (S w)] H'
    walk_at "go"
    refine i_fld hp' T.cl_Signals T.na_Signals_spelled (SF_sp ..) ?_
    walk_at "go"
    have hlt := (List.getElem?_eq_some_iff.mp hk).1
    have hln := gd.ln
    have tk : all pl (ps.take (i + 1)) = all pl (ps.take i) ++ [(k, w)] := by
      show (48, pl) :: ps.take (i + 1) = (48, pl) :: ps.take i ++ [(k, w)]
      rw [List.take_succ, hk]
      rfl
    have nk : k ∉ (all pl (ps.take i)).map (·.1) := by
      have nd := all_nd (pl := pl) gd
      have e0 : all pl ps = all pl (ps.take (i + 1)) ++ ps.drop (i + 1) := by
        show (48, pl) :: ps = (48, pl) :: ps.take (i + 1) ++ ps.drop (i + 1)
        rw [List.cons_append, List.take_append_drop]
      rw [e0, tk, List.map_append, List.map_append, List.nodup_append] at nd
      have n1 := nd.1
      rw [List.nodup_append] at n1
      exact fun z => n1.2.2 k z k (by simp) rfl
    refine dk_put (l := [k]) (v := S w) e2 (by
      unfold tblK
      rw [List.length_map]
      show (ps.take i).length + 1 ≤ 100000
      rw [List.length_take]
      omega) ?_
    refine ⟨_, _, rfl, fun b' nb => (upd_ne nb).trans (e1 b' nb), ?_⟩
    rw [upd_same, putK_new (by rw [tbl_val, look_none nk]; rfl), tk]
    unfold tblK
    rw [List.map_append]
    rfl
  · rintro σ' H' ⟨v1, v2, rfl, e1, e2⟩
    have ll := al.len
    rw [List.length_map] at ll
    rw [List.take_of_length_le (by omega)] at e2
    have bt : But p H3 H' := fun b o nb e => (e1 b (ntd e)).trans (hbo b o nb e)
    have sm : SmT H3 H' := fun b ys e => bt b _ (ntp e) e
    exact q pl ps H' t dd rfl rfl (But.trans (But.of s13) bt) ⟨(e1 p npd).trans hbp, hv3.keep sm (noL_sg ps), e2, lp2, gd.ln, gd.lw⟩
end
end K75
namespace K75
open PySem PySem.Spec PyProof.Rows L2 Fg
local macro_rules | `(tactic| walk_at "sq") => `(tactic| first
  | assumption
  | exact .inl (.inl (by assumption))
  | exact .inl (.inl upd_same))
local macro_rules | `(tactic| walk_at "st") => `(tactic| first
  | assumption
  | exact .inl (.inl (by assumption))
  | exact .inl (.inl upd_same))
local macro_rules | `(tactic| walk_at "o") => `(tactic| first
  | omega
  | assumption
  | (simp only [List.length_append, List.length_take, List.length_drop, List.length_cons, List.length_nil, List.length_singleton, List.length_map, List.length_range, Int.toNat_natCast] ; omega))
local macro_rules | `(tactic| walk_at "s") => `(tactic| first
  | (with_reducible refine i_seq ?_)
  | (with_reducible refine i_asg ?_)
  | ((with_reducible refine' i_var ?h1 ?_); (case h1 => rfl))
  | (with_reducible refine i_c ?_)
  | ((with_reducible refine' i_gname' ?h1 ?_); (case h1 => (simp only [List.set_cons_zero, List.set_cons_succ]; rfl)))
  | (with_reducible refine i_op ?_)
  | (with_reducible refine i_ifS ?_)
  | (with_reducible refine i_for ?_)
  | (with_reducible refine i_test ?_)
  | (with_reducible refine i_B ?_)
  | (with_reducible refine i_exbl ?_)
  | (with_reducible refine i_exint ?_)
  | (with_reducible refine i_cb ?_)
  | (with_reducible refine i_nil ?_)
  | (with_reducible refine i_cons ?_)
  | (with_reducible refine i_ret ?_)
  | (with_reducible refine i_sl ?_)
  | (with_reducible refine i_nopart ?_)
  | (with_reducible refine i_part ?_)
  | (with_reducible refine i_add_int ?_)
  | (with_reducible refine i_sub ?_)
  | (with_reducible refine i_lt ?_)
  | ((with_reducible refine' i_mod ?h1 ?_); (case h1 => walk_at "o"))
  | ((with_reducible refine' i_fdiv ?h1 ?_); (case h1 => (refine cdiv_small ?_ ?_ <;> walk_at "o")))
  | ((with_reducible refine' i_sl_to ?h1 ?h2 ?_); (case h1 => walk_at "o"); (case h2 => walk_at "o"))
  | ((with_reducible refine' i_sl_from ?h1 ?h2 ?_); (case h1 => walk_at "o"); (case h2 => walk_at "o"))
  | ((with_reducible refine' i_add_str ?h1 ?_); (case h1 => walk_at "o"))
  | ((with_reducible refine' i_mul_int ?h1 ?_); (case h1 => first | (refine mul_small ?_ ?_ <;> walk_at "o") | (refine mul_smallR ?_ ?_ <;> walk_at "o")))
  | (with_reducible refine i_le ?_)
  | (with_reducible refine i_gt ?_)
  | (with_reducible refine i_ge ?_)
  | (with_reducible refine i_eq_int ?_)
  | (with_reducible refine i_eq_str ?_)
  | (with_reducible refine i_ne_int ?_)
  | (with_reducible refine i_ne_str ?_)
  | (with_reducible refine i_eq_bl ?_)
  | (with_reducible refine i_ne_bl ?_)
  | (with_reducible refine i_in_sg ?_)
  | (with_reducible refine i_notIn_sg ?_)
  | (with_reducible refine i_call ?_)
  | (with_reducible refine i_callS ?_)
  | (with_reducible refine i_sp1 ?_)
  | (with_reducible refine i_sp2 ?_)
  | (with_reducible refine i_sp3 ?_)
  | (with_reducible refine i_sp4 ?_)
  | (with_reducible refine i_sp1' ?_)
  | (with_reducible refine i_sp2' ?_)
  | (with_reducible refine i_sp3' ?_)
  | ((with_reducible refine' i_ix_lst ?h1 ?h2 ?_); (case h1 => walk_at "sq"); (case h2 => first | exact atI_nat rfl | rfl))
  | ((with_reducible refine' i_ix_tup ?h1 ?h2 ?_); (case h1 => walk_at "st"); (case h2 => first | exact atI_nat rfl | rfl))
  | (with_reducible refine i_gsub ?_)
  | (with_reducible refine i_par ?_)
  | (with_reducible refine i_lstRg1 ?_)
  | (with_reducible refine i_app ?_)
  | (with_reducible refine i_par2 ?_)
  | ((with_reducible refine' i_aug ?h1 ?_); (case h1 => rfl))
  | (with_reducible refine i_ipI ?_)
  | ((with_reducible refine' i_gtup2 ?h1 ?_); (case h1 => walk_at "st"))
  | (with_reducible refine i_int_bl ?_)
  | (with_reducible refine i_raise ?_)
  | (with_reducible refine i_mkE ?_)
  | (with_reducible refine i_ex1 ?_)
  | (with_reducible refine i_and ?_)
  | (with_reducible refine i_or ?_)
  | (with_reducible refine i_not ?_)
  | (with_reducible refine i_tt ?_)
  | (with_reducible refine i_ff ?_)
  | (with_reducible refine i_nott ?_)
  | (with_reducible refine i_notf ?_)
  | (with_reducible refine i_andV ?_)
  | (with_reducible refine i_orV ?_)
  | (with_reducible refine i_notV ?_)
  | (with_reducible refine i_ifE ?_)
  | (with_reducible refine i_tup ?_)
  | (with_reducible refine i_lst ?_)
  | (with_reducible refine i_un ?_)
  | (with_reducible refine i_neg ?_)
  | (with_reducible refine i_chain ?_)
  | (with_reducible refine i_next ?_)
  | (with_reducible refine i_retN ?_)
  | (with_reducible refine i_drop ?_)
  | (with_reducible refine i_int_int ?_)
  | (with_reducible refine i_abs ?_)
  | (with_reducible refine i_m1c ?_)
  | (with_reducible refine i_is_non ?_)
  | (with_reducible refine i_is_int ?_)
  | (with_reducible refine i_is_bl ?_)
  | (with_reducible refine i_isn_bl ?_)
  | (with_reducible refine i_is_str ?_)
  | (with_reducible refine i_is_ref ?_)
  | (with_reducible refine i_isn_non ?_)
  | (with_reducible refine i_isn_int ?_)
  | (with_reducible refine i_isn_str ?_)
  | (with_reducible refine i_isn_ref ?_)
  | (with_reducible refine i_len_str ?h1 ?_; (case h1 => walk_at "o"))
  | (with_reducible refine i_callD ?_)
  | (with_reducible refine i_spD2 ?_)
  | (with_reducible refine i_spM1 ?_)
  | (with_reducible refine i_spM2 ?_)
  | (with_reducible refine i_spM3 ?_)
  | (with_reducible refine i_spM4 ?_)
  | (with_reducible refine i_spM3d ?_)
  | (with_reducible refine i_tfld ?_)
  | (with_reducible refine i_sfld ?_)
  | (with_reducible refine i_meth ?_)
  | (with_reducible refine i_make ?_)
  | (with_reducible refine i_spl ?_)
  | (with_reducible refine i_mkE2 ?_)
  | (with_reducible refine i_ex2 ?_)
  | (with_reducible refine i_dget ?_)
  | (with_reducible refine i_tru ?_)
  | (with_reducible refine i_dput ?_)
  | (with_reducible refine i_dnotin ?_)
  | (with_reducible refine i_din ?_)
  | (with_reducible refine i_rev ?_)
  | (with_reducible refine i_isi_int_int ?_) | (with_reducible refine i_isi_int_bool ?_) | (with_reducible refine i_isi_int_str ?_) | (with_reducible refine i_isi_int_tuple ?_) | (with_reducible refine i_isi_int_list ?_)
  | (with_reducible refine i_isi_bl_int ?_) | (with_reducible refine i_isi_bl_bool ?_) | (with_reducible refine i_isi_bl_str ?_) | (with_reducible refine i_isi_bl_tuple ?_) | (with_reducible refine i_isi_bl_list ?_)
  | (with_reducible refine i_isi_str_int ?_) | (with_reducible refine i_isi_str_bool ?_) | (with_reducible refine i_isi_str_str ?_) | (with_reducible refine i_isi_str_tuple ?_) | (with_reducible refine i_isi_str_list ?_)
  | (with_reducible refine i_isi_non_int ?_) | (with_reducible refine i_isi_non_bool ?_) | (with_reducible refine i_isi_non_str ?_) | (with_reducible refine i_isi_non_tuple ?_) | (with_reducible refine i_isi_non_list ?_))
local macro_rules | `(tactic| walk_at "go") => `(tactic| (repeat' (walk_at "s")))
local macro_rules | `(tactic| walk_at "n") => `(tactic| simp only [wipe, List.map_cons, List.map_nil, List.set_cons_zero, List.set_cons_succ])
/-! ### == -/
theorem firstBad_sg {l : List Nat} (h : firstBad l = none) : ∀ c ∈ l, c ∈ SG := by
  intro c hc
  unfold firstBad at h
  rw [List.findIdx?_eq_none_iff] at h
  have := h c hc
  rw [Bool.not_eq_false', decide_eq_true_eq] at this
  exact this
theorem sgT_lay {ps : Tb} (g : GoodT ps) : (sgT ps).canLay0 = true := by
  show PyData.canLayAll0 (ps.map sgP) = true
  have az : ∀ c ∈ AZ, c < 0x110000 := by decide
  have sg : ∀ c ∈ SG, c < 0x110000 := by decide
  have key : ∀ qs : Tb, (∀ p ∈ qs, p ∈ ps) → PyData.canLayAll0 (qs.map sgP) = true := fun qs => by
    induction qs with
    | nil => intro _; rfl
    | cons p r ih =>
      intro h
      have hp := h p (List.mem_cons_self ..)
      have h1 : PyData.strOk ⟨([p.1] : List Nat).toArray⟩ = true := strOk_small fun c hc => by
        have : c = p.1 := by simpa using hc
        rw [this]; exact az _ (g.az p hp)
      have h2 : PyData.strOk ⟨p.2.toArray⟩ = true := strOk_small fun c hc => sg _ (firstBad_sg (g.ok p hp) c hc)
      show ((PyData.strOk _ && (PyData.strOk _ && true)) && PyData.canLayAll0 (r.map sgP)) = true
      rw [h1, h2, ih fun x hx => h x (List.mem_cons_of_mem _ hx)]
      rfl
  exact key ps fun _ h => h
theorem sgT_dep (ps : Tb) : (sgT ps).depth ≤ 3 := by
  have key : ∀ qs : Tb, PyData.depthAll (qs.map sgP) ≤ 2 := fun qs => by
    induction qs with
    | nil => exact Nat.zero_le _
    | cons p r ih =>
      show max (sgP p).depth (PyData.depthAll (r.map sgP)) ≤ 2
      have : (sgP p).depth ≤ 2 := by unfold sgP; simp [PyData.depth, PyData.depthAll]
      omega
  have := key ps
  show PyData.depthAll (ps.map sgP) + 1 ≤ 3
  omega
section
variable {P : Program} {w : World} {K : PySem.W.Frag} {mg : Str → Option Value} {base : Heap} {C_GlimError C_BadRow C_BadRound C_BadSignal C_BadMessage C_Signals C_dt_Signals___init__ : Addr}
def p_eq (C : Addr) : P2 := fun x y H Q _ => ∃ a pl ps, x = .ref a ∧ Sg C H a pl ps ∧ GoodT ps ∧ ((∃ b pl2 ps2, y = .ref b ∧ Sg C H b pl2 ps2 ∧ GoodT ps2 ∧ Q (.bl (decide (pl = pl2) && (sgT ps).eqv (sgT ps2))) H) ∨
  ∃ d, At H y d ∧ kindD d ∈ ["str", "int", "tuple", "list"] ∧ Q (.bl false) H)
theorem ok_Signals___eq__ (T : Txt K mg C_GlimError C_BadRow C_BadRound C_BadSignal C_BadMessage C_Signals C_dt_Signals___init__) : DOK P w K mg base CX0 1 C_Signals "__eq__" ["self", "other"] (sp2  (p_eq C_Signals)) := by
  refine DOK.mk (k := 0) T.m_Signals___eq__ sc_Signals___eq__ len2 fun f cdv A outer s H vs Q E hr h => ?_
  obtain ⟨x, y, rfl, h⟩ := h
  refine ⟨_, (pss_one (ps_ret (pe_and (pe_callB (cIsi K) (by rfl) T.b_isinstance (by decide +kernel) (pa_cons (pv 1) (pa_cons (pe_gR _ T.c_Signals) pa_nil))) (pe_and (pe_cmpR (opEq K hr.units) (peFld K (pv 0)) (peFld K (pv 1)) (nomark _)) (pe_one (pe_cmpR (opEq K hr.units) (peFld K (pv 0)) (peFld K (pv 1)) (nomark _))))))), ?_⟩
  show (_ : TS) { nx := fun _ H' => Q .non H', rt := Q } [some x, some y] H
  obtain ⟨a, pl, ps, rfl, ⟨dx, t, d, sg⟩, g1, h⟩ := h
  walk_at "go"
  rcases h with ⟨b, pl2, ps2, rfl, ⟨dx2, t2, d2, sg2⟩, g2, q⟩ | ⟨dd, hd, kd, q⟩
  · refine i_isiO sg2.ob T.ic_Signals (.own _) T.k_Signals_Signals ?_
    walk_at "go"
    refine i_fld sg.ob T.cl_Signals T.na_Signals_plain (SF_pl ..) ?_
    walk_at "go"
    refine i_fld sg2.ob T.cl_Signals T.na_Signals_plain (SF_pl ..) ?_
    walk_at "go"
    have sh : ∀ {qs : Tb}, GoodT qs → SeqAt.shaped (sgT qs) = true := fun {qs} g => by
      unfold SeqAt.shaped
      rw [sgT_lay g, decide_eq_true (show (sgT qs).depth ≤ 64 by have := sgT_dep qs; omega)]
      rfl
    by_cases e : pl = pl2
    · rw [decide_eq_true e, Bool.true_and] at q
      rw [decide_eq_true e]
      walk_at "go"
      refine i_fld sg.ob T.cl_Signals T.na_Signals_signals (SF_si ..) ?_
      walk_at "go"
      refine i_fld sg2.ob T.cl_Signals T.na_Signals_signals (SF_si ..) ?_
      exact i_eq_data (sg.sg.dp K _ _ (PyData.hasDict_of_canLay _ (sgT_lay g1))) (sg2.sg.dp K _ _ (PyData.hasDict_of_canLay _ (sgT_lay g2))) (sh g1) (sh g2) rfl q
    · rw [decide_eq_false e, Bool.false_and] at q
      rw [decide_eq_false e]
      walk_at "go"
      exact q
  · have kt : PySem.W.kitOne K (.type (kindD dd)) (.ref C_Signals) = some false := by
      simp only [List.mem_cons, List.not_mem_nil, or_false] at kd
      rcases kd with e | e | e | e <;> rw [e]
      · exact T.k_str_Signals
      · exact T.k_int_Signals
      · exact T.k_tuple_Signals
      · exact T.k_list_Signals
    refine i_isiDO hd (.own _) kt ?_
    walk_at "go"
    exact q
end
end K75
namespace K75
open PySem PySem.Spec PyProof.Rows L2 Fg
local macro_rules | `(tactic| walk_at "sq") => `(tactic| first
  | assumption
  | exact .inl (.inl (by assumption))
  | exact .inl (.inl upd_same))
local macro_rules | `(tactic| walk_at "st") => `(tactic| first
  | assumption
  | exact .inl (.inl (by assumption))
  | exact .inl (.inl upd_same))
local macro_rules | `(tactic| walk_at "o") => `(tactic| first
  | omega
  | assumption
  | (simp only [List.length_append, List.length_take, List.length_drop, List.length_cons, List.length_nil, List.length_singleton, List.length_map, List.length_range, Int.toNat_natCast] ; omega))
local macro_rules | `(tactic| walk_at "s") => `(tactic| first
  | (with_reducible refine i_seq ?_)
  | (with_reducible refine i_asg ?_)
  | ((with_reducible refine' i_var ?h1 ?_); (case h1 => rfl))
  | (with_reducible refine i_c ?_)
  | ((with_reducible refine' i_gname' ?h1 ?_); (case h1 => (simp only [List.set_cons_zero, List.set_cons_succ]; rfl)))
  | (with_reducible refine i_op ?_)
  | (with_reducible refine i_ifS ?_)
  | (with_reducible refine i_for ?_)
  | (with_reducible refine i_test ?_)
  | (with_reducible refine i_B ?_)
  | (with_reducible refine i_exbl ?_)
  | (with_reducible refine i_exint ?_)
  | (with_reducible refine i_cb ?_)
  | (with_reducible refine i_nil ?_)
  | (with_reducible refine i_cons ?_)
  | (with_reducible refine i_ret ?_)
  | (with_reducible refine i_sl ?_)
  | (with_reducible refine i_nopart ?_)
  | (with_reducible refine i_part ?_)
  | (with_reducible refine i_add_int ?_)
  | (with_reducible refine i_sub ?_)
  | (with_reducible refine i_lt ?_)
  | ((with_reducible refine' i_mod ?h1 ?_); (case h1 => walk_at "o"))
  | ((with_reducible refine' i_fdiv ?h1 ?_); (case h1 => (refine cdiv_small ?_ ?_ <;> walk_at "o")))
  | ((with_reducible refine' i_sl_to ?h1 ?h2 ?_); (case h1 => walk_at "o"); (case h2 => walk_at "o"))
  | ((with_reducible refine' i_sl_from ?h1 ?h2 ?_); (case h1 => walk_at "o"); (case h2 => walk_at "o"))
  | ((with_reducible refine' i_add_str ?h1 ?_); (case h1 => walk_at "o"))
  | ((with_reducible refine' i_mul_int ?h1 ?_); (case h1 => first | (refine mul_small ?_ ?_ <;> walk_at "o") | (refine mul_smallR ?_ ?_ <;> walk_at "o")))
  | (with_reducible refine i_le ?_)
  | (with_reducible refine i_gt ?_)
  | (with_reducible refine i_ge ?_)
  | (with_reducible refine i_eq_int ?_)
  | (with_reducible refine i_eq_str ?_)
  | (with_reducible refine i_ne_int ?_)
  | (with_reducible refine i_ne_str ?_)
  | (with_reducible refine i_eq_bl ?_)
  | (with_reducible refine i_ne_bl ?_)
  | (with_reducible refine i_in_sg ?_)
  | (with_reducible refine i_notIn_sg ?_)
  | (with_reducible refine i_call ?_)
  | (with_reducible refine i_callS ?_)
  | (with_reducible refine i_sp1 ?_)
  | (with_reducible refine i_sp2 ?_)
  | (with_reducible refine i_sp3 ?_)
  | (with_reducible refine i_sp4 ?_)
  | (with_reducible refine i_sp1' ?_)
  | (with_reducible refine i_sp2' ?_)
  | (with_reducible refine i_sp3' ?_)
  | ((with_reducible refine' i_ix_lst ?h1 ?h2 ?_); (case h1 => walk_at "sq"); (case h2 => first | exact atI_nat rfl | rfl))
  | ((with_reducible refine' i_ix_tup ?h1 ?h2 ?_); (case h1 => walk_at "st"); (case h2 => first | exact atI_nat rfl | rfl))
  | (with_reducible refine i_gsub ?_)
  | (with_reducible refine i_par ?_)
  | (with_reducible refine i_lstRg1 ?_)
  | (with_reducible refine i_app ?_)
  | (with_reducible refine i_par2 ?_)
  | ((with_reducible refine' i_aug ?h1 ?_); (case h1 => rfl))
  | (with_reducible refine i_ipI ?_)
  | ((with_reducible refine' i_gtup2 ?h1 ?_); (case h1 => walk_at "st"))
  | (with_reducible refine i_int_bl ?_)
  | (with_reducible refine i_raise ?_)
  | (with_reducible refine i_mkE ?_)
  | (with_reducible refine i_ex1 ?_)
  | (with_reducible refine i_and ?_)
  | (with_reducible refine i_or ?_)
  | (with_reducible refine i_not ?_)
  | (with_reducible refine i_tt ?_)
  | (with_reducible refine i_ff ?_)
  | (with_reducible refine i_nott ?_)
  | (with_reducible refine i_notf ?_)
  | (with_reducible refine i_andV ?_)
  | (with_reducible refine i_orV ?_)
  | (with_reducible refine i_notV ?_)
  | (with_reducible refine i_ifE ?_)
  | (with_reducible refine i_tup ?_)
  | (with_reducible refine i_lst ?_)
  | (with_reducible refine i_un ?_)
  | (with_reducible refine i_neg ?_)
  | (with_reducible refine i_chain ?_)
  | (with_reducible refine i_next ?_)
  | (with_reducible refine i_retN ?_)
  | (with_reducible refine i_drop ?_)
  | (with_reducible refine i_int_int ?_)
  | (with_reducible refine i_abs ?_)
  | (with_reducible refine i_m1c ?_)
  | (with_reducible refine i_is_non ?_)
  | (with_reducible refine i_is_int ?_)
  | (with_reducible refine i_is_bl ?_)
  | (with_reducible refine i_isn_bl ?_)
  | (with_reducible refine i_is_str ?_)
  | (with_reducible refine i_is_ref ?_)
  | (with_reducible refine i_isn_non ?_)
  | (with_reducible refine i_isn_int ?_)
  | (with_reducible refine i_isn_str ?_)
  | (with_reducible refine i_isn_ref ?_)
  | (with_reducible refine i_len_str ?h1 ?_; (case h1 => walk_at "o"))
  | (with_reducible refine i_callD ?_)
  | (with_reducible refine i_spD2 ?_)
  | (with_reducible refine i_spM1 ?_)
  | (with_reducible refine i_spM2 ?_)
  | (with_reducible refine i_spM3 ?_)
  | (with_reducible refine i_spM4 ?_)
  | (with_reducible refine i_spM3d ?_)
  | (with_reducible refine i_tfld ?_)
  | (with_reducible refine i_sfld ?_)
  | (with_reducible refine i_meth ?_)
  | (with_reducible refine i_make ?_)
  | (with_reducible refine i_spl ?_)
  | (with_reducible refine i_mkE2 ?_)
  | (with_reducible refine i_ex2 ?_)
  | (with_reducible refine i_dget ?_)
  | (with_reducible refine i_tru ?_)
  | (with_reducible refine i_dput ?_)
  | (with_reducible refine i_dnotin ?_)
  | (with_reducible refine i_din ?_)
  | (with_reducible refine i_rev ?_)
  | (with_reducible refine i_isi_int_int ?_) | (with_reducible refine i_isi_int_bool ?_) | (with_reducible refine i_isi_int_str ?_) | (with_reducible refine i_isi_int_tuple ?_) | (with_reducible refine i_isi_int_list ?_)
  | (with_reducible refine i_isi_bl_int ?_) | (with_reducible refine i_isi_bl_bool ?_) | (with_reducible refine i_isi_bl_str ?_) | (with_reducible refine i_isi_bl_tuple ?_) | (with_reducible refine i_isi_bl_list ?_)
  | (with_reducible refine i_isi_str_int ?_) | (with_reducible refine i_isi_str_bool ?_) | (with_reducible refine i_isi_str_str ?_) | (with_reducible refine i_isi_str_tuple ?_) | (with_reducible refine i_isi_str_list ?_)
  | (with_reducible refine i_isi_non_int ?_) | (with_reducible refine i_isi_non_bool ?_) | (with_reducible refine i_isi_non_str ?_) | (with_reducible refine i_isi_non_tuple ?_) | (with_reducible refine i_isi_non_list ?_))
local macro_rules | `(tactic| walk_at "go") => `(tactic| (repeat' (walk_at "s")))
local macro_rules | `(tactic| walk_at "n") => `(tactic| simp only [wipe, List.map_cons, List.map_nil, List.set_cons_zero, List.set_cons_succ])
/-! ### comprehensions whose elements draw -/
section
variable {K : PySem.W.Frag} {σ : L2.St} {H H0 : Hp} {Q : VK} {te : TE} {ta : TA} {j : Nat} {vs : List Nat} {d : Dd}
theorem c_rngD (Pz : Int → Prop) (ha : ∀ R : List V → Hp → Prop, (∀ (z : Int) H1, Dr K d H0 H1 → Pz z → R [.int z] H1) → ta σ H R) (hz : ∀ z, Pz z → 0 ≤ z ∧ z ≤ 100000)
    (Pc : Nat → List V → Prop) (h0 : Pc 0 []) (hl : ∀ i acc, Pc i acc → acc.length ≤ 100000) (hw : ∀ x, wipe ((wipe σ vs).set j (some x)) vs = wipe σ vs)
    (he : ∀ (z : Int) (i : Nat) acc Hk H2, Pz z → (i : Int) < z → Pc i acc → Dr K d Hk H2 → ∀ QV : VK, (∀ y H3, Dr K d Hk H3 → Pc (i + 1) (acc ++ [y]) → QV y H3) → te ((wipe σ vs).set j (some (.int (i : Int)))) H2 QV)
    (q : ∀ (z : Int) Dl H3 acc, Pz z → H0 Dl = none → Pc z.toNat acc → Dr K d (upd H0 Dl (.lst acc)) H3 → Q (.ref Dl) H3) : tLc (iRng1 ta) (gName j) tYes te vs σ H Q := by
  refine ha _ fun z H1 dr pz => ⟨z, rfl, by have := hz z pz; omega, by have := hz z pz; omega, fun Dl nD => ?_⟩
  have n0 : H0 Dl = none := dr.free nD
  refine lc_range (fun i H' => ∃ acc, Pc i acc ∧ Dr K d (upd H0 Dl (.lst acc)) H') ⟨[], h0, dr.new nD⟩ (fun i H' hi p => ?_) (fun H' p => ?_)
  · obtain ⟨acc, pc, dr'⟩ := p
    rw [Int.zero_add]
    refine ⟨hw _, ?_⟩
    refine i_yes (i_tt ?_)
    refine he z i acc _ H' pz (by omega) pc dr' _ fun y H3 dr3 pc' => ⟨acc, dr3.old upd_same, Nat.lt_of_le_of_lt (hl i acc pc) (by decide), _, pc', dr3.put dr.cells n0⟩
  · obtain ⟨acc, pc, dr'⟩ := p
    exact q z Dl H' acc pz n0 pc dr'
end
section
variable {K : PySem.W.Frag} {σ : L2.St} {H H0 : Hp} {Q : VK} {te tl : TE} {j : Nat} {vs : List Nat} {d : Dd} {a : Addr} {xs : List V}
/-- a comprehension over a list that is known, whose elements draw -/
theorem c_lstD (dr : Dr K d H0 H) (hx : H0 a = some (.lst xs)) (ha : ∀ R : VK, R (.ref a) H → tl σ H R) (hn : xs.length ≤ 100000)
    (Pc : Nat → List V → Prop) (h0 : Pc 0 []) (hl : ∀ i acc, Pc i acc → acc.length ≤ 100000) (hw : ∀ x, wipe ((wipe σ vs).set j (some x)) vs = wipe σ vs)
    (he : ∀ (i : Nat) x acc Hk H2, xs[i]? = some x → Pc i acc → Dr K d Hk H2 → ∀ QV : VK, (∀ y H3, Dr K d Hk H3 → Pc (i + 1) (acc ++ [y]) → QV y H3) → te ((wipe σ vs).set j (some x)) H2 QV)
    (q : ∀ Dl H3 acc, H0 Dl = none → Pc xs.length acc → Dr K d (upd H0 Dl (.lst acc)) H3 → Q (.ref Dl) H3) : tLc (iAny K tl) (gName j) tYes te vs σ H Q := by
  refine ha _ (.inl ⟨a, xs, rfl, .inl (.inl (dr.old hx)), fun Dl nD => ?_⟩)
  have n0 : H0 Dl = none := dr.free nD
  have ne : a ≠ Dl := ne_of_none hx n0
  refine lc_list (xs := xs) (fun i H' => ∃ acc, Pc i acc ∧ Dr K d (upd H0 Dl (.lst acc)) H') ⟨[], h0, dr.new nD⟩ (fun i H' _ p => ?_) (fun i x H' hi p => ?_) (fun H' p => ?_)
  · obtain ⟨acc, _, dr'⟩ := p
    exact .inl (.inl (dr'.old ((upd_ne ne).trans hx)))
  · obtain ⟨acc, pc, dr'⟩ := p
    refine ⟨hw _, ?_⟩
    refine i_yes (i_tt ?_)
    refine he i x acc _ H' hi pc dr' _ fun y H3 dr3 pc' => ⟨acc, dr3.old upd_same, Nat.lt_of_le_of_lt (hl i acc pc) (by decide), _, pc', dr3.put dr.cells n0⟩
  · obtain ⟨acc, pc, dr'⟩ := p
    exact q Dl H' acc n0 pc dr'
end
section
variable {K : PySem.W.Frag} {d : Dd} {H0 H : Hp} {q : Addr} {o : HO}
theorem Dr.self (h : Dr K d H0 H) : ∃ o, H d.a = some o := by
  obtain ⟨s0, n0, hc, hl, p, b, u, x, sd, ha, hp⟩ := h
  exact ⟨_, ha⟩
theorem Dr.ne (h : Dr K d H0 H) (n : H q = none) : q ≠ d.a := fun z => by
  obtain ⟨o, e⟩ := h.self
  rw [← z, n] at e
  cases e
/-- what stands is known -/
theorem Dr.learn (h : Dr K d H0 H) (e : H q = some o) (ne : q ≠ d.a) : Dr K d (upd H0 q o) H := by
  obtain ⟨s0, n0, hc, hl, p, b, u, x, sd, ha, hp⟩ := h
  have s1 : Same H0 (upd H0 q o) := fun b' o' e' => by
    by_cases hb : b' = q
    · subst hb
      rw [upd_same]
      have := s0 _ _ e'
      rw [e] at this
      exact this
    · rw [upd_ne hb]; exact e'
  refine ⟨fun b' o' e' => ?_, by rw [upd_ne (Ne.symm ne)]; exact n0, s1.seq hc, hl, p, b, u, x, sd, ha, hp⟩
  by_cases hb : b' = q
  · subst hb
    rw [upd_same] at e'
    rw [e]; exact e'
  · rw [upd_ne hb] at e'
    exact s0 _ _ e'
end
/-- a new object, known or not -/
theorem Dr.skip {K : PySem.W.Frag} {d : Dd} {H0 H : Hp} {q : Addr} {o : HO} (h : Dr K d H0 H) (n : H q = none) : Dr K d H0 (upd H q o) := h.same (same_upd n)
theorem Dr.step {K : PySem.W.Frag} {d : Dd} {Hk H : Hp} {p : Addr} (o : HO) (h : Dr K d Hk H) (n : H p = none) : ∃ Hk', Same Hk Hk' ∧ Hk' p = some o ∧ Dr K d Hk' (upd H p o) := ⟨upd Hk p o, same_upd (h.free n), upd_same, h.new n⟩
theorem Dr.back {K : PySem.W.Frag} {d : Dd} {H0 H1 H H' : Hp} (h : Dr K d H1 H) (dr : Dr K d H0 H') (s : Same H0 H1) : Dr K d H0 H := by
  obtain ⟨s1, n1, hc1, hl, p, b, u, x, sd, ha, hp⟩ := h
  obtain ⟨s0, n0, hc, _⟩ := dr
  exact ⟨s.trans s1, n0, hc, hl, p, b, u, x, sd, ha, hp⟩
end K75
namespace K75
open PySem PySem.Spec PyProof.Rows L2 Fg
local macro_rules | `(tactic| walk_at "sq") => `(tactic| first
  | assumption
  | exact .inl (.inl (by assumption))
  | exact .inl (.inl upd_same))
local macro_rules | `(tactic| walk_at "st") => `(tactic| first
  | assumption
  | exact .inl (.inl (by assumption))
  | exact .inl (.inl upd_same))
local macro_rules | `(tactic| walk_at "o") => `(tactic| first
  | omega
  | assumption
  | (simp only [List.length_append, List.length_take, List.length_drop, List.length_cons, List.length_nil, List.length_singleton, List.length_map, List.length_range, Int.toNat_natCast] ; omega))
local macro_rules | `(tactic| walk_at "s") => `(tactic| first
  | (with_reducible refine i_seq ?_)
  | (with_reducible refine i_asg ?_)
  | ((with_reducible refine' i_var ?h1 ?_); (case h1 => rfl))
  | (with_reducible refine i_c ?_)
  | ((with_reducible refine' i_gname' ?h1 ?_); (case h1 => (simp only [List.set_cons_zero, List.set_cons_succ]; rfl)))
  | (with_reducible refine i_op ?_)
  | (with_reducible refine i_ifS ?_)
  | (with_reducible refine i_for ?_)
  | (with_reducible refine i_test ?_)
  | (with_reducible refine i_B ?_)
  | (with_reducible refine i_exbl ?_)
  | (with_reducible refine i_exint ?_)
  | (with_reducible refine i_cb ?_)
  | (with_reducible refine i_nil ?_)
  | (with_reducible refine i_cons ?_)
  | (with_reducible refine i_ret ?_)
  | (with_reducible refine i_sl ?_)
  | (with_reducible refine i_nopart ?_)
  | (with_reducible refine i_part ?_)
  | (with_reducible refine i_add_int ?_)
  | (with_reducible refine i_sub ?_)
  | (with_reducible refine i_lt ?_)
  | ((with_reducible refine' i_mod ?h1 ?_); (case h1 => walk_at "o"))
  | ((with_reducible refine' i_fdiv ?h1 ?_); (case h1 => (refine cdiv_small ?_ ?_ <;> walk_at "o")))
  | ((with_reducible refine' i_sl_to ?h1 ?h2 ?_); (case h1 => walk_at "o"); (case h2 => walk_at "o"))
  | ((with_reducible refine' i_sl_from ?h1 ?h2 ?_); (case h1 => walk_at "o"); (case h2 => walk_at "o"))
  | ((with_reducible refine' i_add_str ?h1 ?_); (case h1 => walk_at "o"))
  | ((with_reducible refine' i_mul_int ?h1 ?_); (case h1 => first | (refine mul_small ?_ ?_ <;> walk_at "o") | (refine mul_smallR ?_ ?_ <;> walk_at "o")))
  | (with_reducible refine i_le ?_)
  | (with_reducible refine i_gt ?_)
  | (with_reducible refine i_ge ?_)
  | (with_reducible refine i_eq_int ?_)
  | (with_reducible refine i_eq_str ?_)
  | (with_reducible refine i_ne_int ?_)
  | (with_reducible refine i_ne_str ?_)
  | (with_reducible refine i_eq_bl ?_)
  | (with_reducible refine i_ne_bl ?_)
  | (with_reducible refine i_in_sg ?_)
  | (with_reducible refine i_notIn_sg ?_)
  | (with_reducible refine i_call ?_)
  | (with_reducible refine i_callS ?_)
  | (with_reducible refine i_sp1 ?_)
  | (with_reducible refine i_sp2 ?_)
  | (with_reducible refine i_sp3 ?_)
  | (with_reducible refine i_sp4 ?_)
  | (with_reducible refine i_sp1' ?_)
  | (with_reducible refine i_sp2' ?_)
  | (with_reducible refine i_sp3' ?_)
  | ((with_reducible refine' i_ix_lst ?h1 ?h2 ?_); (case h1 => walk_at "sq"); (case h2 => first | exact atI_nat rfl | rfl))
  | ((with_reducible refine' i_ix_tup ?h1 ?h2 ?_); (case h1 => walk_at "st"); (case h2 => first | exact atI_nat rfl | rfl))
  | (with_reducible refine i_gsub ?_)
  | (with_reducible refine i_par ?_)
  | (with_reducible refine i_lstRg1 ?_)
  | (with_reducible refine i_app ?_)
  | (with_reducible refine i_par2 ?_)
  | ((with_reducible refine' i_aug ?h1 ?_); (case h1 => rfl))
  | (with_reducible refine i_ipI ?_)
  | ((with_reducible refine' i_gtup2 ?h1 ?_); (case h1 => walk_at "st"))
  | (with_reducible refine i_int_bl ?_)
  | (with_reducible refine i_raise ?_)
  | (with_reducible refine i_mkE ?_)
  | (with_reducible refine i_ex1 ?_)
  | (with_reducible refine i_and ?_)
  | (with_reducible refine i_or ?_)
  | (with_reducible refine i_not ?_)
  | (with_reducible refine i_tt ?_)
  | (with_reducible refine i_ff ?_)
  | (with_reducible refine i_nott ?_)
  | (with_reducible refine i_notf ?_)
  | (with_reducible refine i_andV ?_)
  | (with_reducible refine i_orV ?_)
  | (with_reducible refine i_notV ?_)
  | (with_reducible refine i_ifE ?_)
  | (with_reducible refine i_tup ?_)
  | (with_reducible refine i_lst ?_)
  | (with_reducible refine i_un ?_)
  | (with_reducible refine i_neg ?_)
  | (with_reducible refine i_chain ?_)
  | (with_reducible refine i_next ?_)
  | (with_reducible refine i_retN ?_)
  | (with_reducible refine i_drop ?_)
  | (with_reducible refine i_int_int ?_)
  | (with_reducible refine i_abs ?_)
  | (with_reducible refine i_m1c ?_)
  | (with_reducible refine i_is_non ?_)
  | (with_reducible refine i_is_int ?_)
  | (with_reducible refine i_is_bl ?_)
  | (with_reducible refine i_isn_bl ?_)
  | (with_reducible refine i_is_str ?_)
  | (with_reducible refine i_is_ref ?_)
  | (with_reducible refine i_isn_non ?_)
  | (with_reducible refine i_isn_int ?_)
  | (with_reducible refine i_isn_str ?_)
  | (with_reducible refine i_isn_ref ?_)
  | (with_reducible refine i_len_str ?h1 ?_; (case h1 => walk_at "o"))
  | (with_reducible refine i_callD ?_)
  | (with_reducible refine i_spD2 ?_)
  | (with_reducible refine i_spM1 ?_)
  | (with_reducible refine i_spM2 ?_)
  | (with_reducible refine i_spM3 ?_)
  | (with_reducible refine i_spM4 ?_)
  | (with_reducible refine i_spM3d ?_)
  | (with_reducible refine i_tfld ?_)
  | (with_reducible refine i_sfld ?_)
  | (with_reducible refine i_meth ?_)
  | (with_reducible refine i_make ?_)
  | (with_reducible refine i_spl ?_)
  | (with_reducible refine i_mkE2 ?_)
  | (with_reducible refine i_ex2 ?_)
  | (with_reducible refine i_dget ?_)
  | (with_reducible refine i_tru ?_)
  | (with_reducible refine i_dput ?_)
  | (with_reducible refine i_dnotin ?_)
  | (with_reducible refine i_din ?_)
  | (with_reducible refine i_rev ?_)
  | (with_reducible refine i_isi_int_int ?_) | (with_reducible refine i_isi_int_bool ?_) | (with_reducible refine i_isi_int_str ?_) | (with_reducible refine i_isi_int_tuple ?_) | (with_reducible refine i_isi_int_list ?_)
  | (with_reducible refine i_isi_bl_int ?_) | (with_reducible refine i_isi_bl_bool ?_) | (with_reducible refine i_isi_bl_str ?_) | (with_reducible refine i_isi_bl_tuple ?_) | (with_reducible refine i_isi_bl_list ?_)
  | (with_reducible refine i_isi_str_int ?_) | (with_reducible refine i_isi_str_bool ?_) | (with_reducible refine i_isi_str_str ?_) | (with_reducible refine i_isi_str_tuple ?_) | (with_reducible refine i_isi_str_list ?_)
  | (with_reducible refine i_isi_non_int ?_) | (with_reducible refine i_isi_non_bool ?_) | (with_reducible refine i_isi_non_str ?_) | (with_reducible refine i_isi_non_tuple ?_) | (with_reducible refine i_isi_non_list ?_))
local macro_rules | `(tactic| walk_at "go") => `(tactic| (repeat' (walk_at "s")))
local macro_rules | `(tactic| walk_at "n") => `(tactic| simp only [wipe, List.map_cons, List.map_nil, List.set_cons_zero, List.set_cons_succ])
section
variable {P : Program} {w : World} {K : PySem.W.Frag} {mg : Str → Option Value} {base : Heap} {C_GlimError C_BadRow C_BadRound C_BadSignal C_BadMessage C_Signals C_dt_Signals___init__ : Addr}
/-- a sign, dark nearly as often as lit -/
def p_L_sign (K : PySem.W.Frag) : P1 := fun x H Q _ => ∃ (H0 : Hp) (d : Dd), x = .ref d.a ∧ Dr K d H0 H ∧ ∀ c H', Dr K d H0 H' → c ∈ SG → Q (S [c]) H'
theorem ok_L_sign (T : Txt K mg C_GlimError C_BadRow C_BadRound C_BadSignal C_BadMessage C_Signals C_dt_Signals___init__) : OK P w K mg base CX0 3 "_law_sign" ["_law_draw_here"] (sp1  (p_L_sign K)) := by
  refine OK.mk (k := 2) T.d_L_sign sc_L_sign len1 fun f cdv A outer s H vs Q E hr h => ?_
  obtain ⟨x, rfl, h⟩ := h
  refine ⟨_, (pss_one (ps_ret (pe_ix (ixK K) (pe_S [46, 46, 46, 119, 119, 114, 103]) (pe_f (ok_L_pick (K := K) T) (hr.mono (by decide)) pass0 (pa_cons (pv 0) (pa_cons pe_int pa_nil))) (fun _ _ => rfl)))), ?_⟩
  show (_ : TS) { nx := fun _ H' => Q .non H', rt := Q } [some x] H
  obtain ⟨H0, d, rfl, dr, q⟩ := h
  walk_at "go"
  refine ⟨H0, d, 7, rfl, rfl, dr, by decide, fun n H1 dr1 b => ?_⟩
  have b0 := b.1
  have b1 := b.2.1 (by decide)
  have hn : n.toNat < 7 := by omega
  have key : ∀ i < 7, ∃ c, ([46, 46, 46, 119, 119, 114, 103] : List Nat)[i]? = some c ∧ c ∈ SG := by decide
  obtain ⟨c, hc, hs⟩ := key n.toNat hn
  refine i_ix_str (by decide) b0 hc ?_
  walk_at "go"
  exact q c H1 dr1 hs
end
end K75
namespace K75
open PySem PySem.Spec PyProof.Rows L2 Fg
local macro_rules | `(tactic| walk_at "sq") => `(tactic| first
  | assumption
  | exact .inl (.inl (by assumption))
  | exact .inl (.inl upd_same))
local macro_rules | `(tactic| walk_at "st") => `(tactic| first
  | assumption
  | exact .inl (.inl (by assumption))
  | exact .inl (.inl upd_same))
local macro_rules | `(tactic| walk_at "o") => `(tactic| first
  | omega
  | assumption
  | (simp only [List.length_append, List.length_take, List.length_drop, List.length_cons, List.length_nil, List.length_singleton, List.length_map, List.length_range, Int.toNat_natCast] ; omega))
local macro_rules | `(tactic| walk_at "s") => `(tactic| first
  | (with_reducible refine i_seq ?_)
  | (with_reducible refine i_asg ?_)
  | ((with_reducible refine' i_var ?h1 ?_); (case h1 => rfl))
  | (with_reducible refine i_c ?_)
  | ((with_reducible refine' i_gname' ?h1 ?_); (case h1 => (simp only [List.set_cons_zero, List.set_cons_succ]; rfl)))
  | (with_reducible refine i_op ?_)
  | (with_reducible refine i_ifS ?_)
  | (with_reducible refine i_for ?_)
  | (with_reducible refine i_test ?_)
  | (with_reducible refine i_B ?_)
  | (with_reducible refine i_exbl ?_)
  | (with_reducible refine i_exint ?_)
  | (with_reducible refine i_cb ?_)
  | (with_reducible refine i_nil ?_)
  | (with_reducible refine i_cons ?_)
  | (with_reducible refine i_ret ?_)
  | (with_reducible refine i_sl ?_)
  | (with_reducible refine i_nopart ?_)
  | (with_reducible refine i_part ?_)
  | (with_reducible refine i_add_int ?_)
  | (with_reducible refine i_sub ?_)
  | (with_reducible refine i_lt ?_)
  | ((with_reducible refine' i_mod ?h1 ?_); (case h1 => walk_at "o"))
  | ((with_reducible refine' i_fdiv ?h1 ?_); (case h1 => (refine cdiv_small ?_ ?_ <;> walk_at "o")))
  | ((with_reducible refine' i_sl_to ?h1 ?h2 ?_); (case h1 => walk_at "o"); (case h2 => walk_at "o"))
  | ((with_reducible refine' i_sl_from ?h1 ?h2 ?_); (case h1 => walk_at "o"); (case h2 => walk_at "o"))
  | ((with_reducible refine' i_add_str ?h1 ?_); (case h1 => walk_at "o"))
  | ((with_reducible refine' i_mul_int ?h1 ?_); (case h1 => first | (refine mul_small ?_ ?_ <;> walk_at "o") | (refine mul_smallR ?_ ?_ <;> walk_at "o")))
  | (with_reducible refine i_le ?_)
  | (with_reducible refine i_gt ?_)
  | (with_reducible refine i_ge ?_)
  | (with_reducible refine i_eq_int ?_)
  | (with_reducible refine i_eq_str ?_)
  | (with_reducible refine i_ne_int ?_)
  | (with_reducible refine i_ne_str ?_)
  | (with_reducible refine i_eq_bl ?_)
  | (with_reducible refine i_ne_bl ?_)
  | (with_reducible refine i_in_sg ?_)
  | (with_reducible refine i_notIn_sg ?_)
  | (with_reducible refine i_call ?_)
  | (with_reducible refine i_callS ?_)
  | (with_reducible refine i_sp1 ?_)
  | (with_reducible refine i_sp2 ?_)
  | (with_reducible refine i_sp3 ?_)
  | (with_reducible refine i_sp4 ?_)
  | (with_reducible refine i_sp1' ?_)
  | (with_reducible refine i_sp2' ?_)
  | (with_reducible refine i_sp3' ?_)
  | ((with_reducible refine' i_ix_lst ?h1 ?h2 ?_); (case h1 => walk_at "sq"); (case h2 => first | exact atI_nat rfl | rfl))
  | ((with_reducible refine' i_ix_tup ?h1 ?h2 ?_); (case h1 => walk_at "st"); (case h2 => first | exact atI_nat rfl | rfl))
  | (with_reducible refine i_gsub ?_)
  | (with_reducible refine i_par ?_)
  | (with_reducible refine i_lstRg1 ?_)
  | (with_reducible refine i_app ?_)
  | (with_reducible refine i_par2 ?_)
  | ((with_reducible refine' i_aug ?h1 ?_); (case h1 => rfl))
  | (with_reducible refine i_ipI ?_)
  | ((with_reducible refine' i_gtup2 ?h1 ?_); (case h1 => walk_at "st"))
  | (with_reducible refine i_int_bl ?_)
  | (with_reducible refine i_raise ?_)
  | (with_reducible refine i_mkE ?_)
  | (with_reducible refine i_ex1 ?_)
  | (with_reducible refine i_and ?_)
  | (with_reducible refine i_or ?_)
  | (with_reducible refine i_not ?_)
  | (with_reducible refine i_tt ?_)
  | (with_reducible refine i_ff ?_)
  | (with_reducible refine i_nott ?_)
  | (with_reducible refine i_notf ?_)
  | (with_reducible refine i_andV ?_)
  | (with_reducible refine i_orV ?_)
  | (with_reducible refine i_notV ?_)
  | (with_reducible refine i_ifE ?_)
  | (with_reducible refine i_tup ?_)
  | (with_reducible refine i_lst ?_)
  | (with_reducible refine i_un ?_)
  | (with_reducible refine i_neg ?_)
  | (with_reducible refine i_chain ?_)
  | (with_reducible refine i_next ?_)
  | (with_reducible refine i_retN ?_)
  | (with_reducible refine i_drop ?_)
  | (with_reducible refine i_int_int ?_)
  | (with_reducible refine i_abs ?_)
  | (with_reducible refine i_m1c ?_)
  | (with_reducible refine i_is_non ?_)
  | (with_reducible refine i_is_int ?_)
  | (with_reducible refine i_is_bl ?_)
  | (with_reducible refine i_isn_bl ?_)
  | (with_reducible refine i_is_str ?_)
  | (with_reducible refine i_is_ref ?_)
  | (with_reducible refine i_isn_non ?_)
  | (with_reducible refine i_isn_int ?_)
  | (with_reducible refine i_isn_str ?_)
  | (with_reducible refine i_isn_ref ?_)
  | (with_reducible refine i_len_str ?h1 ?_; (case h1 => walk_at "o"))
  | (with_reducible refine i_callD ?_)
  | (with_reducible refine i_spD2 ?_)
  | (with_reducible refine i_spM1 ?_)
  | (with_reducible refine i_spM2 ?_)
  | (with_reducible refine i_spM3 ?_)
  | (with_reducible refine i_spM4 ?_)
  | (with_reducible refine i_spM3d ?_)
  | (with_reducible refine i_tfld ?_)
  | (with_reducible refine i_sfld ?_)
  | (with_reducible refine i_meth ?_)
  | (with_reducible refine i_make ?_)
  | (with_reducible refine i_spl ?_)
  | (with_reducible refine i_mkE2 ?_)
  | (with_reducible refine i_ex2 ?_)
  | (with_reducible refine i_dget ?_)
  | (with_reducible refine i_tru ?_)
  | (with_reducible refine i_dput ?_)
  | (with_reducible refine i_dnotin ?_)
  | (with_reducible refine i_din ?_)
  | (with_reducible refine i_rev ?_)
  | (with_reducible refine i_isi_int_int ?_) | (with_reducible refine i_isi_int_bool ?_) | (with_reducible refine i_isi_int_str ?_) | (with_reducible refine i_isi_int_tuple ?_) | (with_reducible refine i_isi_int_list ?_)
  | (with_reducible refine i_isi_bl_int ?_) | (with_reducible refine i_isi_bl_bool ?_) | (with_reducible refine i_isi_bl_str ?_) | (with_reducible refine i_isi_bl_tuple ?_) | (with_reducible refine i_isi_bl_list ?_)
  | (with_reducible refine i_isi_str_int ?_) | (with_reducible refine i_isi_str_bool ?_) | (with_reducible refine i_isi_str_str ?_) | (with_reducible refine i_isi_str_tuple ?_) | (with_reducible refine i_isi_str_list ?_)
  | (with_reducible refine i_isi_non_int ?_) | (with_reducible refine i_isi_non_bool ?_) | (with_reducible refine i_isi_non_str ?_) | (with_reducible refine i_isi_non_tuple ?_) | (with_reducible refine i_isi_non_list ?_))
local macro_rules | `(tactic| walk_at "go") => `(tactic| (repeat' (walk_at "s")))
local macro_rules | `(tactic| walk_at "n") => `(tactic| simp only [wipe, List.map_cons, List.map_nil, List.set_cons_zero, List.set_cons_succ])
/-! ### rows, letters, talks drawn -/
theorem nd_len : ∀ {xs u : List Nat}, xs.Nodup → (∀ c ∈ xs, c ∈ u) → xs.length ≤ u.length
  | [], _, _, _ => Nat.zero_le _
  | x :: r, u, nd, h => by
    rw [List.nodup_cons] at nd
    have hx := h x (List.mem_cons_self ..)
    have ih := nd_len (u := u.erase x) nd.2 fun c hc => (List.mem_erase_of_ne (fun z => nd.1 (by rw [← z]; exact hc))).mpr (h c (List.mem_cons_of_mem _ hc))
    rw [List.length_erase_of_mem hx] at ih
    have := List.length_pos_of_mem hx
    rw [List.length_cons]
    omega
theorem _root_.Fg.Row.take {l : List Nat} (h : Row l) (n : Nat) : Row (l.take n) := fun c hc => h c (List.mem_of_mem_take hc)
theorem _root_.Fg.Row.drop {l : List Nat} (h : Row l) (n : Nat) : Row (l.drop n) := fun c hc => h c (List.mem_of_mem_drop hc)
theorem _root_.Fg.Row.app {l m : List Nat} (h : Row l) (h2 : Row m) : Row (l ++ m) := fun c hc => (List.mem_append.mp hc).elim (h c) (h2 c)
theorem _root_.Fg.Row.one {c : Nat} (h : c ∈ SG) : Row [c] := fun x hx => by rw [List.mem_singleton.mp hx]; exact h
theorem _root_.Fg.Row.rep {l : List Nat} (h : Row l) (n : Nat) : Row (List.replicate n l).flatten := fun c hc => by
  obtain ⟨m, hm, hc⟩ := List.mem_flatten.mp hc
  rw [(List.mem_replicate.mp hm).2] at hc
  exact h c hc
section
variable {P : Program} {w : World} {K : PySem.W.Frag} {mg : Str → Option Value} {base : Heap} {C_GlimError C_BadRow C_BadRound C_BadSignal C_BadMessage C_Signals C_dt_Signals___init__ : Addr}
def p_L_round (K : PySem.W.Frag) : P2 := fun x y H Q _ => ∃ (H0 : Hp) (d : Dd) (most : Int), x = .ref d.a ∧ y = .int most ∧ Dr K d H0 H ∧ 1 ≤ most ∧ most ≤ 1000 ∧ ∀ l H', Dr K d H0 H' → Row l → 1 ≤ l.length → (l.length : Int) ≤ most → Q (S l) H'
theorem ok_L_round (T : Txt K mg C_GlimError C_BadRow C_BadRound C_BadSignal C_BadMessage C_Signals C_dt_Signals___init__) : OK P w K mg base CX0 4 "_law_round" ["_law_draw_here", "_law_most"] (sp2  (p_L_round K)) := by
  refine OK.mk (k := 3) T.d_L_round sc_L_round len2 fun f cdv A outer s H vs Q E hr h => ?_
  obtain ⟨x, y, rfl, h⟩ := h
  refine ⟨_, (pss_one (ps_ret (peJoin K (pe_S []) (pe_lc (own := [("_law_turn", 2)]) (g := gName 2) (tt := tYes) (by rfl) sc_L_round.nd (pi_range1 rfl T.b_range (pa_cons (pe_op (opAdd K) pe_int (pe_f (ok_L_pick (K := K) T) (hr.mono (by decide)) pass0 (pa_cons (pv 0) (pa_cons (pv 1) pa_nil)))) pa_nil)) (blkOk_by (own := [("_law_turn", 2)]) (N := ["_law_draw_here", "_law_most", "_law_turn"]) (sc := (defScope s_L_round)) (by decide +kernel)) (fun _ _ _ _ _ => (pg_name (i := 2) sc_L_round.nd rfl (Or.inl rfl))) (fun _ _ _ _ _ => pts_nil) (fun _ _ _ _ _ => (pe_f (ok_L_sign (K := K) T) (hr.mono (by decide)) pass0 (pa_cons (pv 0) pa_nil))))))), ?_⟩
  show (_ : TS) { nx := fun _ H' => Q .non H', rt := Q } [some x, some y, none] H
  obtain ⟨H0, d, most, rfl, rfl, dr, m1, m2, q⟩ := h
  walk_at "go"
  refine c_rngD (K := K) (d := d) (H0 := H0) (fun z => 1 ≤ z ∧ z ≤ most) (fun R k => ?_) (fun z h => by omega) (fun i acc => ∃ cs : List Nat, cs.length = i ∧ i ≤ 1000 ∧ Row cs ∧ acc = cs.map fun c => S [c]) ⟨[], rfl, by omega, fun c hc => by simp at hc, rfl⟩ ?_ (fun _ => rfl) ?_ ?_
  · walk_at "go"
    refine ⟨H0, d, most, rfl, rfl, dr, by omega, fun n H1 dr1 b => ?_⟩
    walk_at "go"
    exact k _ _ dr1 (by have := b.1; have := b.2.1; have := b.2.2; omega)
  · rintro i acc ⟨cs, h1, h2, h3, rfl⟩
    rw [List.length_map]; omega
  · rintro z i acc Hk H2 hz hi ⟨cs, h1, h2, h3, rfl⟩ dr2 QV k
    show (_ : TE) [some (.ref d.a), some (.int most), some (.int (i : Int))] H2 QV
    walk_at "go"
    refine ⟨Hk, d, rfl, dr2, fun c H3 dr3 hc => k _ _ dr3 ⟨cs ++ [c], by rw [List.length_append, h1]; rfl, by omega, fun x hx => ?_, by rw [List.map_append]; rfl⟩⟩
    rcases List.mem_append.mp hx with hx | hx
    · exact h3 x hx
    · rw [List.mem_singleton.mp hx]; exact hc
  · rintro z Dl H3 acc hz n0 ⟨cs, h1, h2, h3, rfl⟩ dr3
    walk_at "go"
    refine i_join1 (.inl (.inl (dr3.old upd_same))) (by omega) ?_
    exact q cs H3 (dr3.less dr.cells n0) h3 (by omega) (by omega)
def p_L_bent (K : PySem.W.Frag) : P2 := fun x y H Q _ => ∃ (H0 : Hp) (d : Dd) (l : List Nat), x = .ref d.a ∧ y = S l ∧ Dr K d H0 H ∧ Row l ∧ 1 ≤ l.length ∧ l.length ≤ 1000 ∧ ∀ l' H', Dr K d H0 H' → Row l' → 1 ≤ l'.length → l'.length ≤ l.length + 1 → Q (S l') H'
theorem ok_L_bent (T : Txt K mg C_GlimError C_BadRow C_BadRound C_BadSignal C_BadMessage C_Signals C_dt_Signals___init__) : OK P w K mg base CX0 4 "_law_bent" ["_law_draw_here", "_law_row"] (sp2  (p_L_bent K)) := by
  refine OK.mk (k := 3) T.d_L_bent sc_L_bent len2 fun f cdv A outer s H vs Q E hr h => ?_
  obtain ⟨x, y, rfl, h⟩ := h
  refine ⟨_, (pss_cons (ps_set (i := 2) sc_L_bent.nd rfl (Or.inl rfl) (pe_f (ok_L_pick (K := K) T) (hr.mono (by decide)) pass0 (pa_cons (pv 0) (pa_cons (pe_callB (cLen K) (by rfl) T.b_len (by decide +kernel) (pa_cons (pv 1) pa_nil)) pa_nil)))) (pss_cons (ps_set (i := 3) sc_L_bent.nd rfl (Or.inl rfl) (pe_f (ok_L_pick (K := K) T) (hr.mono (by decide)) pass0 (pa_cons (pv 0) (pa_cons pe_int pa_nil)))) (pss_cons (ps_if (pw_and (pt_cmpR (opEq K hr.units) (pv 3) pe_int (nomark _)) (pw_and1 (pt_cmpR op_gtP (pe_callB (cLen K) (by rfl) T.b_len (by decide +kernel) (pa_cons (pv 1) pa_nil)) pe_int (nomark _)))).pt (pss_one (ps_ret (pe_op (opAdd K) (pe_slice (slK K) (pv 1) po_none (po_some (pv 2))) (pe_slice (slK K) (pv 1) (po_some (pe_op (opAdd K) (pv 2) pe_int)) po_none)))) pss_nil) (pss_cons (ps_if (pt_cmpR (opEq K hr.units) (pv 3) pe_int (nomark _)) (pss_one (ps_ret (pe_op (opAdd K) (pe_op (opAdd K) (pe_slice (slK K) (pv 1) po_none (po_some (pv 2))) (pe_f (ok_L_sign (K := K) T) (hr.mono (by decide)) pass0 (pa_cons (pv 0) pa_nil))) (pe_slice (slK K) (pv 1) (po_some (pv 2)) po_none)))) pss_nil) (pss_one (ps_ret (pe_op (opAdd K) (pe_op (opAdd K) (pe_slice (slK K) (pv 1) po_none (po_some (pv 2))) (pe_f (ok_L_sign (K := K) T) (hr.mono (by decide)) pass0 (pa_cons (pv 0) pa_nil))) (pe_slice (slK K) (pv 1) (po_some (pe_op (opAdd K) (pv 2) pe_int)) po_none)))))))), ?_⟩
  show (_ : TS) { nx := fun _ H' => Q .non H', rt := Q } [some x, some y, none, none] H
  obtain ⟨H0, d, l, rfl, rfl, dr, hr, h1, h2, q⟩ := h
  walk_at "go"
  refine ⟨H0, d, l.length, rfl, rfl, dr, by omega, fun n H1 dr1 b => ?_⟩
  have b0 := b.1
  have b1 : n.toNat < l.length := by have := b.2.1; have := b.2.2; omega
  have e1 : (n + 1).toNat = n.toNat + 1 := by omega
  walk_at "go"
  refine ⟨H0, d, 3, rfl, rfl, dr1, by decide, fun k H2 dr2 _ => ?_⟩
  walk_at "go"
  have last : ∀ c H3, Dr K d H0 H3 → c ∈ SG → Q (S (l.take n.toNat ++ [c] ++ l.drop (n + 1).toNat)) H3 := fun c H3 dr3 hc =>
    q _ H3 dr3 (((hr.take _).app (.one hc)).app (hr.drop _)) (by simp; omega) (by rw [e1]; simp; omega)
  refine i_dec (fun c0 => ?_) (fun c0 => ?_)
  · walk_at "go"
    refine i_dec (fun c1 => ?_) (fun c1 => ?_)
    · walk_at "go"
      exact q _ H2 dr2 ((hr.take _).app (hr.drop _)) (by rw [e1]; simp; omega) (by rw [e1]; simp; omega)
    · walk_at "go"
      refine i_dec (fun c2 => absurd c2 (by omega)) (fun c2 => ?_)
      walk_at "go"
      refine ⟨H0, d, rfl, dr2, fun c H3 dr3 hc => ?_⟩
      walk_at "go"
      exact last c H3 dr3 hc
  · walk_at "go"
    refine i_dec (fun c2 => ?_) (fun c2 => ?_)
    · walk_at "go"
      refine ⟨H0, d, rfl, dr2, fun c H3 dr3 hc => ?_⟩
      walk_at "go"
      exact q _ H3 dr3 (((hr.take _).app (.one hc)).app (hr.drop _)) (by simp; omega) (by simp; omega)
    · walk_at "go"
      refine ⟨H0, d, rfl, dr2, fun c H3 dr3 hc => ?_⟩
      walk_at "go"
      exact last c H3 dr3 hc
def p_L_letter (K : PySem.W.Frag) : P2 := fun x y H Q _ => ∃ (H0 : Hp) (d : Dd) (u : List Nat), x = .ref d.a ∧ y = S u ∧ u.length ≤ 10 ∧ Dr K d H0 H ∧ ∀ c H', Dr K d H0 H' → c ∈ AZ → c ∉ u → Q (S [c]) H'
theorem ok_L_letter (T : Txt K mg C_GlimError C_BadRow C_BadRound C_BadSignal C_BadMessage C_Signals C_dt_Signals___init__) : OK P w K mg base CX0 3 "_law_letter" ["_law_draw_here", "_law_used"] (sp2  (p_L_letter K)) := by
  refine OK.mk (k := 2) T.d_L_letter sc_L_letter len2 fun f cdv A outer s H vs Q E hr h => ?_
  obtain ⟨x, y, rfl, h⟩ := h
  refine ⟨_, (pss_cons (ps_setLc (i := 2) (own := [("_law_letter_here", 3)]) (g := gName 3) (by rfl) sc_L_letter.nd rfl rfl (sw_true rfl rfl rfl (by decide +kernel)) (piAny K (pe_S [97, 98, 99, 100, 101, 102, 103, 104, 105, 106, 107, 108, 109, 110, 111, 112, 113, 114, 115, 116, 117, 118, 119, 120, 121, 122])) (blkOk_by (own := [("_law_letter_here", 3)]) (N := ["_law_draw_here", "_law_used", "_law_pool", "_law_letter_here"]) (sc := (defScope s_L_letter)) (by decide +kernel)) (fun _ _ _ _ _ => (pg_name (i := 3) sc_L_letter.nd rfl (Or.inl rfl))) (fun _ _ _ _ _ => (pts_one (pt_cmpR (opNotIn K) (pv 3) (pv 1) (by with_unfolding_all rfl)))) (fun _ _ _ _ _ => (pv 3))) (pss_one (ps_ret (pe_ix (ixK K) (pv 2) (pe_f (ok_L_pick (K := K) T) (hr.mono (by decide)) pass0 (pa_cons (pv 0) (pa_cons (pe_callB (cLen K) (by rfl) T.b_len (by decide +kernel) (pa_cons (pv 2) pa_nil)) pa_nil))) (fun _ _ => rfl))))), ?_⟩
  show (_ : TS) { nx := fun _ H' => Q .non H', rt := Q } [some x, some y, none, none] H
  obtain ⟨H0, d, u, rfl, rfl, hu, dr, q⟩ := h
  walk_at "go"
  refine c_strF (z := AZ) (fun c => !decide (c ∈ u)) (fun R k => by walk_at "go"; exact k) (by decide) (fun _ => rfl) (fun c H2 hc s2 QB k => ?_) (fun c H2 hc s2 QV k => ?_) (fun Dl H2 n2 s2 d2 => ?_)
  · show (_ : TT) [some (.ref d.a), some (S u), none, some (S [c])] H2 QB
    walk_at "go"
    exact k H2 (Same.refl H2)
  · show (_ : TE) [some (.ref d.a), some (S u), none, some (S [c])] H2 QV
    walk_at "go"
    exact k H2 (Same.refl H2)
  · have dr2 := dr.got n2 s2 d2
    have ne : 1 ≤ (AZ.filter fun c => !decide (c ∈ u)).length := by
      rcases Nat.eq_zero_or_pos (AZ.filter fun c => !decide (c ∈ u)).length with z | z
      · rw [List.length_eq_zero_iff, List.filter_eq_nil_iff] at z
        have : AZ.length ≤ u.length := nd_len (by decide) fun c hc => by simpa using z c hc
        have : AZ.length = 26 := rfl
        omega
      · exact z
    walk_at "go"
    refine i_len_lst (.inl (.inl d2)) ?_
    walk_at "go"
    refine ⟨_, d, _, rfl, rfl, dr2, ?_, fun n H3 dr3 b3 => ?_⟩
    · rw [List.length_map]
      have := List.length_filter_le (fun c => !decide (c ∈ u)) AZ
      have : AZ.length = 26 := rfl
      omega
    rw [List.length_map] at b3
    have b0 := b3.1
    have bn : n.toNat < (AZ.filter fun c => !decide (c ∈ u)).length := by have := b3.2.1; have := b3.2.2; omega
    walk_at "go"
    refine i_ix_lst (v := S [(AZ.filter fun c => !decide (c ∈ u))[n.toNat]]) (.inl (.inl (dr3.old upd_same))) (atI_int b0 (by rw [List.getElem?_map, List.getElem?_eq_getElem bn]; rfl)) ?_
    have hm := List.mem_filter.mp (List.getElem_mem bn)
    exact q _ H3 (dr3.less dr.cells (dr.free n2)) hm.1 (by simpa using hm.2)
end
end K75
namespace K75
open PySem PySem.Spec PyProof.Rows L2 Fg
local macro_rules | `(tactic| walk_at "sq") => `(tactic| first
  | assumption
  | exact .inl (.inl (by assumption))
  | exact .inl (.inl upd_same))
local macro_rules | `(tactic| walk_at "st") => `(tactic| first
  | assumption
  | exact .inl (.inl (by assumption))
  | exact .inl (.inl upd_same))
local macro_rules | `(tactic| walk_at "o") => `(tactic| first
  | omega
  | assumption
  | (simp only [List.length_append, List.length_take, List.length_drop, List.length_cons, List.length_nil, List.length_singleton, List.length_map, List.length_range, Int.toNat_natCast] ; omega))
local macro_rules | `(tactic| walk_at "s") => `(tactic| first
  | (with_reducible refine i_seq ?_)
  | (with_reducible refine i_asg ?_)
  | ((with_reducible refine' i_var ?h1 ?_); (case h1 => rfl))
  | (with_reducible refine i_c ?_)
  | ((with_reducible refine' i_gname' ?h1 ?_); (case h1 => (simp only [List.set_cons_zero, List.set_cons_succ]; rfl)))
  | (with_reducible refine i_op ?_)
  | (with_reducible refine i_ifS ?_)
  | (with_reducible refine i_for ?_)
  | (with_reducible refine i_test ?_)
  | (with_reducible refine i_B ?_)
  | (with_reducible refine i_exbl ?_)
  | (with_reducible refine i_exint ?_)
  | (with_reducible refine i_cb ?_)
  | (with_reducible refine i_nil ?_)
  | (with_reducible refine i_cons ?_)
  | (with_reducible refine i_ret ?_)
  | (with_reducible refine i_sl ?_)
  | (with_reducible refine i_nopart ?_)
  | (with_reducible refine i_part ?_)
  | (with_reducible refine i_add_int ?_)
  | (with_reducible refine i_sub ?_)
  | (with_reducible refine i_lt ?_)
  | ((with_reducible refine' i_mod ?h1 ?_); (case h1 => walk_at "o"))
  | ((with_reducible refine' i_fdiv ?h1 ?_); (case h1 => (refine cdiv_small ?_ ?_ <;> walk_at "o")))
  | ((with_reducible refine' i_sl_to ?h1 ?h2 ?_); (case h1 => walk_at "o"); (case h2 => walk_at "o"))
  | ((with_reducible refine' i_sl_from ?h1 ?h2 ?_); (case h1 => walk_at "o"); (case h2 => walk_at "o"))
  | ((with_reducible refine' i_add_str ?h1 ?_); (case h1 => walk_at "o"))
  | ((with_reducible refine' i_mul_int ?h1 ?_); (case h1 => first | (refine mul_small ?_ ?_ <;> walk_at "o") | (refine mul_smallR ?_ ?_ <;> walk_at "o")))
  | (with_reducible refine i_le ?_)
  | (with_reducible refine i_gt ?_)
  | (with_reducible refine i_ge ?_)
  | (with_reducible refine i_eq_int ?_)
  | (with_reducible refine i_eq_str ?_)
  | (with_reducible refine i_ne_int ?_)
  | (with_reducible refine i_ne_str ?_)
  | (with_reducible refine i_eq_bl ?_)
  | (with_reducible refine i_ne_bl ?_)
  | (with_reducible refine i_in_sg ?_)
  | (with_reducible refine i_notIn_sg ?_)
  | (with_reducible refine i_call ?_)
  | (with_reducible refine i_callS ?_)
  | (with_reducible refine i_sp1 ?_)
  | (with_reducible refine i_sp2 ?_)
  | (with_reducible refine i_sp3 ?_)
  | (with_reducible refine i_sp4 ?_)
  | (with_reducible refine i_sp1' ?_)
  | (with_reducible refine i_sp2' ?_)
  | (with_reducible refine i_sp3' ?_)
  | ((with_reducible refine' i_ix_lst ?h1 ?h2 ?_); (case h1 => walk_at "sq"); (case h2 => first | exact atI_nat rfl | rfl))
  | ((with_reducible refine' i_ix_tup ?h1 ?h2 ?_); (case h1 => walk_at "st"); (case h2 => first | exact atI_nat rfl | rfl))
  | (with_reducible refine i_gsub ?_)
  | (with_reducible refine i_par ?_)
  | (with_reducible refine i_lstRg1 ?_)
  | (with_reducible refine i_app ?_)
  | (with_reducible refine i_par2 ?_)
  | ((with_reducible refine' i_aug ?h1 ?_); (case h1 => rfl))
  | (with_reducible refine i_ipI ?_)
  | ((with_reducible refine' i_gtup2 ?h1 ?_); (case h1 => walk_at "st"))
  | (with_reducible refine i_int_bl ?_)
  | (with_reducible refine i_raise ?_)
  | (with_reducible refine i_mkE ?_)
  | (with_reducible refine i_ex1 ?_)
  | (with_reducible refine i_and ?_)
  | (with_reducible refine i_or ?_)
  | (with_reducible refine i_not ?_)
  | (with_reducible refine i_tt ?_)
  | (with_reducible refine i_ff ?_)
  | (with_reducible refine i_nott ?_)
  | (with_reducible refine i_notf ?_)
  | (with_reducible refine i_andV ?_)
  | (with_reducible refine i_orV ?_)
  | (with_reducible refine i_notV ?_)
  | (with_reducible refine i_ifE ?_)
  | (with_reducible refine i_tup ?_)
  | (with_reducible refine i_lst ?_)
  | (with_reducible refine i_un ?_)
  | (with_reducible refine i_neg ?_)
  | (with_reducible refine i_chain ?_)
  | (with_reducible refine i_next ?_)
  | (with_reducible refine i_retN ?_)
  | (with_reducible refine i_drop ?_)
  | (with_reducible refine i_int_int ?_)
  | (with_reducible refine i_abs ?_)
  | (with_reducible refine i_m1c ?_)
  | (with_reducible refine i_is_non ?_)
  | (with_reducible refine i_is_int ?_)
  | (with_reducible refine i_is_bl ?_)
  | (with_reducible refine i_isn_bl ?_)
  | (with_reducible refine i_is_str ?_)
  | (with_reducible refine i_is_ref ?_)
  | (with_reducible refine i_isn_non ?_)
  | (with_reducible refine i_isn_int ?_)
  | (with_reducible refine i_isn_str ?_)
  | (with_reducible refine i_isn_ref ?_)
  | (with_reducible refine i_len_str ?h1 ?_; (case h1 => walk_at "o"))
  | (with_reducible refine i_callD ?_)
  | (with_reducible refine i_spD2 ?_)
  | (with_reducible refine i_spM1 ?_)
  | (with_reducible refine i_spM2 ?_)
  | (with_reducible refine i_spM3 ?_)
  | (with_reducible refine i_spM4 ?_)
  | (with_reducible refine i_spM3d ?_)
  | (with_reducible refine i_tfld ?_)
  | (with_reducible refine i_sfld ?_)
  | (with_reducible refine i_meth ?_)
  | (with_reducible refine i_make ?_)
  | (with_reducible refine i_spl ?_)
  | (with_reducible refine i_mkE2 ?_)
  | (with_reducible refine i_ex2 ?_)
  | (with_reducible refine i_dget ?_)
  | (with_reducible refine i_tru ?_)
  | (with_reducible refine i_dput ?_)
  | (with_reducible refine i_dnotin ?_)
  | (with_reducible refine i_din ?_)
  | (with_reducible refine i_rev ?_)
  | (with_reducible refine i_isi_int_int ?_) | (with_reducible refine i_isi_int_bool ?_) | (with_reducible refine i_isi_int_str ?_) | (with_reducible refine i_isi_int_tuple ?_) | (with_reducible refine i_isi_int_list ?_)
  | (with_reducible refine i_isi_bl_int ?_) | (with_reducible refine i_isi_bl_bool ?_) | (with_reducible refine i_isi_bl_str ?_) | (with_reducible refine i_isi_bl_tuple ?_) | (with_reducible refine i_isi_bl_list ?_)
  | (with_reducible refine i_isi_str_int ?_) | (with_reducible refine i_isi_str_bool ?_) | (with_reducible refine i_isi_str_str ?_) | (with_reducible refine i_isi_str_tuple ?_) | (with_reducible refine i_isi_str_list ?_)
  | (with_reducible refine i_isi_non_int ?_) | (with_reducible refine i_isi_non_bool ?_) | (with_reducible refine i_isi_non_str ?_) | (with_reducible refine i_isi_non_tuple ?_) | (with_reducible refine i_isi_non_list ?_))
local macro_rules | `(tactic| walk_at "go") => `(tactic| (repeat' (walk_at "s")))
local macro_rules | `(tactic| walk_at "n") => `(tactic| simp only [wipe, List.map_cons, List.map_nil, List.set_cons_zero, List.set_cons_succ])
/-! ### talks drawn -/
/-- pairs as they stand in a list -/
def Prs (H : Hp) (xs : List V) (ps : Tb) : Prop := AtAll H xs (ps.map sgP)
structure GoodR (l : List Nat) (m : Nat) : Prop where
  row : Row l
  ne : 1 ≤ l.length
  le : l.length ≤ m
theorem repl_len (n : Nat) (l : List Nat) : (List.replicate n l).flatten.length = n * l.length := by
  induction n with
  | zero => simp
  | succ n ih => rw [List.replicate_succ, List.flatten_cons, List.length_append, ih, Nat.succ_mul]; omega
theorem good_nil : GoodT [] := ⟨Nat.zero_le _, fun _ h => (List.not_mem_nil h).elim, fun _ h => (List.not_mem_nil h).elim, fun _ h => (List.not_mem_nil h).elim, fun _ h => (List.not_mem_nil h).elim, List.nodup_nil⟩
theorem good_add {ps : Tb} {c : Nat} {w : List Nat} (g : GoodT ps) (hl : ps.length < 4) (hc : c ∈ AZ) (hn : c ∉ ps.map (·.1)) (hw : Row w) (w1 : 1 ≤ w.length) (w2 : w.length ≤ 12) : GoodT (ps ++ [(c, w)]) := by
  have key : ∀ {P : Nat × List Nat → Prop}, (∀ p ∈ ps, P p) → P (c, w) → ∀ p ∈ ps ++ [(c, w)], P p := fun h1 h2 p hp => by
    rcases List.mem_append.mp hp with hp | hp
    · exact h1 p hp
    · rw [List.mem_singleton.mp hp]; exact h2
  refine ⟨by rw [List.length_append, List.length_singleton]; omega, key g.az hc, key g.lw w2, key g.ne (fun z => by rw [show w = [] from z] at w1; exact absurd w1 (by decide)), key g.ok (firstBad_none hw), ?_⟩
  rw [List.map_append, List.nodup_append]
  refine ⟨g.nd, by simp, fun a ha b hb => ?_⟩
  have : b = c := by simpa using hb
  rw [this]
  exact fun z => hn (by rw [← z]; exact ha)
section
variable {P : Program} {w : World} {K : PySem.W.Frag} {mg : Str → Option Value} {base : Heap} {C_GlimError C_BadRow C_BadRound C_BadSignal C_BadMessage C_Signals C_dt_Signals___init__ : Addr}
def p_L_talk (K : PySem.W.Frag) : P3 := fun x y z H Q _ => ∃ (H0 : Hp) (d : Dd), x = .ref d.a ∧ y = .int 4 ∧ z = .int 4 ∧ Dr K d H0 H ∧
  ∀ pl ps a b xs A H', Same H0 A → A d.a = none → GoodR pl 24 → GoodT ps → A b = some (.lst xs) → Prs A xs ps → A a = some (.tup [S pl, .ref b]) → Dr K d A H' → Q (.ref a) H'
theorem ok_L_talk (T : Txt K mg C_GlimError C_BadRow C_BadRound C_BadSignal C_BadMessage C_Signals C_dt_Signals___init__) : OK P w K mg base CX0 5 "_law_talk" ["_law_draw_here", "_law_many", "_law_most"] (sp3  (p_L_talk K)) := by
  refine OK.mk (k := 4) T.d_L_talk sc_L_talk len3 fun f cdv A outer s H vs Q E hr h => ?_
  obtain ⟨x, y, z, rfl, h⟩ := h
  refine ⟨_, (pss_cons (ps_set (i := 3) sc_L_talk.nd rfl (Or.inl rfl) (pe_f (ok_L_round (K := K) T) (hr.mono (by decide)) pass0 (pa_cons (pv 0) (pa_cons (pv 2) pa_nil)))) (pss_cons (ps_set (i := 4) sc_L_talk.nd rfl (Or.inl rfl) (pe_lst pa_nil)) (pss_cons (ps_set (i := 5) sc_L_talk.nd rfl (Or.inl rfl) (pe_S [])) (pss_cons (ps_set (i := 6) sc_L_talk.nd rfl (Or.inl rfl) (pv 3)) (pss_cons (ps_for PassesOwn.never rfl (pi_range1 rfl T.b_range (pa_cons (pe_f (ok_L_pick (K := K) T) (hr.mono (by decide)) pass0 (pa_cons (pv 0) (pa_cons (pe_op (opAdd K) (pv 1) pe_int) pa_nil))) pa_nil)) (pg_name (i := 7) sc_L_talk.nd rfl (Or.inl rfl)) (pss_cons (ps_set (i := 8) sc_L_talk.nd rfl (Or.inl rfl) (pe_f (ok_L_round (K := K) T) (hr.mono (by decide)) pass0 (pa_cons (pv 0) (pa_cons (pv 2) pa_nil)))) (pss_cons (ps_set (i := 9) sc_L_talk.nd rfl (Or.inl rfl) (pe_f (ok_L_pick (K := K) T) (hr.mono (by decide)) pass0 (pa_cons (pv 0) (pa_cons pe_int pa_nil)))) (Evl.pss_cut (ps_if (pt_cmpR (opEq K hr.units) (pv 9) pe_int (nomark _)) (pss_one (ps_set (i := 8) sc_L_talk.nd rfl (Or.inl rfl) (pe_slice (slK K) (pe_f (ok_L_bent (K := K) T) (hr.mono (by decide)) pass0 (pa_cons (pv 0) (pa_cons (pv 6) pa_nil))) po_none (po_some (pv 2))))) pss_nil) (Evl.pss_cut (ps_if (pt_cmpR (opEq K hr.units) (pv 9) pe_int (nomark _)) (pss_one (ps_set (i := 8) sc_L_talk.nd rfl (Or.inl rfl) (pv 6))) pss_nil) (pss_cons (ps_set (i := 6) sc_L_talk.nd rfl (Or.inl rfl) (pv 8)) (Evl.pss_cut (ps_if (pt_cmpR (opEq K hr.units) (pe_f (ok_L_pick (K := K) T) (hr.mono (by decide)) pass0 (pa_cons (pv 0) (pa_cons pe_int pa_nil))) pe_int (nomark _)) (pss_one (ps_set (i := 8) sc_L_talk.nd rfl (Or.inl rfl) (pe_slice (slK K) (pe_op op_mulP (pv 8) pe_int) po_none (po_some pe_int)))) pss_nil) (pss_cons (ps_expr (peApp K (pv 4) (pa_cons (pe_tup (pa_cons (pe_f (ok_L_letter (K := K) T) (hr.mono (by decide)) pass0 (pa_cons (pv 0) (pa_cons (pv 5) pa_nil))) (pa_cons (pv 8) pa_nil))) pa_nil))) (pss_one (ps_set (i := 5) sc_L_talk.nd rfl (Or.inl rfl) (pe_op (opAdd K) (pv 5) (pe_ix (ixK K) (pe_ix (ixK K) (pv 4) (pe_un un_neg pe_int) (fun _ _ => rfl)) pe_int (fun _ _ => rfl))))))))))))) (Evl.pss_cut (ps_if (pt_cmpR (opEq K hr.units) (pe_f (ok_L_pick (K := K) T) (hr.mono (by decide)) pass0 (pa_cons (pv 0) (pa_cons pe_int pa_nil))) pe_int (nomark _)) (pss_one (ps_set (i := 3) sc_L_talk.nd rfl (Or.inl rfl) (pe_slice (slK K) (pe_op op_mulP (pv 3) pe_int) po_none (po_some pe_int)))) pss_nil) (pss_one (ps_ret (pe_tup (pa_cons (pv 3) (pa_cons (pv 4) pa_nil))))))))))), ?_⟩
  show (_ : TS) { nx := fun _ H' => Q .non H', rt := Q } [some x, some y, some z, none, none, none, none, none, none, none] H
  obtain ⟨H0, d, rfl, rfl, rfl, dr, q⟩ := h
  walk_at "go"
  refine ⟨H0, d, 4, rfl, rfl, dr, by decide, by decide, fun pl H1 dr1 r1 l1 l2 => ?_⟩
  walk_at "go"
  refine i_new (by show 0 ≤ 100000; omega) fun b nb => ?_
  walk_at "go"
  have n0 : H0 b = none := dr1.free nb
  refine i_forR ?_
  walk_at "go"
  refine ⟨_, d, 5, rfl, rfl, dr1.new nb, by decide, fun t H3 dr3 b3 => ?_⟩
  have t0 := b3.1
  have t1 := b3.2.1 (by decide)
  refine i_rngD t0 (by omega) (fun i σ' H' => ∃ (ps : Tb) (xs : List V) (A : Hp) (last : List Nat) (v7 v8 v9 : Option V), σ' = [some (.ref d.a), some (.int 4), some (.int 4), some (S pl), some (.ref b), some (S (ps.map (·.1))), some (S last), v7, v8, v9] ∧
    ps.length = i ∧ GoodT ps ∧ Row last ∧ 1 ≤ last.length ∧ last.length ≤ 4 ∧ Same H0 A ∧ A b = none ∧ A d.a = none ∧ Prs A xs ps ∧ Dr K d (upd A b (.lst xs)) H')
    ⟨[], [], H0, pl, none, none, none, rfl, rfl, good_nil, r1, l1, by omega, Same.refl _, n0, dr.2.1, .nil, dr3⟩ ?_ ?_
  · rintro i σ' H4 hi ⟨ps, xs, A, last, v7, v8, v9, rfl, hl, g, rl, l3, l4, sA, nA, nd, pr, dr4⟩
    have hi4 : ps.length < 4 := by omega
    walk_at "go"
    refine ⟨_, d, 4, rfl, rfl, dr4, by decide, by decide, fun w H5 dr5 rw1 w1 w2 => ?_⟩
    walk_at "go"
    refine ⟨_, d, 4, rfl, rfl, dr5, by decide, fun k H6 dr6 b6 => ?_⟩
    walk_at "go"
    refine i_cut (fun σ' H' => ∃ w' : List Nat, σ' = [some (.ref d.a), some (.int 4), some (.int 4), some (S pl), some (.ref b), some (S (ps.map (·.1))), some (S last), some (.int (i : Int)), some (S w'), some (.int k)] ∧ Row w' ∧ 1 ≤ w'.length ∧ w'.length ≤ 4 ∧ Dr K d (upd A b (.lst xs)) H') ?_ ?_
    · walk_at "go"
      refine i_dec (fun a1 => ?_) (fun a1 => ?_)
      · walk_at "go"
        refine ⟨_, d, last, rfl, rfl, dr6, rl, l3, by omega, fun w' H7 dr7 rw' w1' w2' => ?_⟩
        walk_at "go"
        exact ⟨w'.take 4, rfl, rw'.take 4, by rw [List.length_take]; omega, by rw [List.length_take]; omega, dr7⟩
      · walk_at "go"
        exact ⟨w, rfl, rw1, w1, by omega, dr6⟩
    · rintro σ' H' ⟨w', rfl, rw', w1', w2', dr7⟩
      walk_at "go"
      refine i_cut (fun σ' H' => ∃ w' : List Nat, σ' = [some (.ref d.a), some (.int 4), some (.int 4), some (S pl), some (.ref b), some (S (ps.map (·.1))), some (S last), some (.int (i : Int)), some (S w'), some (.int k)] ∧ Row w' ∧ 1 ≤ w'.length ∧ w'.length ≤ 4 ∧ Dr K d (upd A b (.lst xs)) H') ?_ ?_
      · walk_at "go"
        refine i_dec (fun a1 => ?_) (fun a1 => ?_)
        · walk_at "go"
          exact ⟨last, rfl, rl, l3, l4, dr7⟩
        · walk_at "go"
          exact ⟨w', rfl, rw', w1', w2', dr7⟩
      rintro σ' H' ⟨w3, rfl, rw3, w31, w32, dr8⟩
      walk_at "go"
      refine i_cut (fun σ' H' => ∃ w' : List Nat, σ' = [some (.ref d.a), some (.int 4), some (.int 4), some (S pl), some (.ref b), some (S (ps.map (·.1))), some (S w3), some (.int (i : Int)), some (S w'), some (.int k)] ∧ Row w' ∧ 1 ≤ w'.length ∧ w'.length ≤ 12 ∧ Dr K d (upd A b (.lst xs)) H') ?_ ?_
      · walk_at "go"
        refine ⟨_, d, 8, rfl, rfl, dr8, by decide, fun k2 H9 dr9 b9 => ?_⟩
        walk_at "go"
        refine i_dec (fun a1 => ?_) (fun a1 => ?_)
        · walk_at "go"
          have hlen : (List.replicate 12 w3).flatten.length = 12 * w3.length := repl_len 12 w3
          refine i_mul_strI (l := w3) (k := 12) (by decide) ⟨by show w3.length * 12 ≤ 100000; omega, by decide⟩ ?_
          rw [show (12 : Int).toNat = 12 from rfl]
          have hrr := rw3.rep 12
          generalize (List.replicate 12 w3).flatten = rr at *
          walk_at "go"
          exact ⟨rr.take 12, rfl, hrr.take 12, by rw [List.length_take, hlen]; omega, by rw [List.length_take]; omega, dr9⟩
        · walk_at "go"
          exact ⟨w3, rfl, rw3, w31, by omega, dr9⟩
      rintro σ' H' ⟨w4, rfl, rw4, w41, w42, dr9⟩
      walk_at "go"
      refine i_appAt (dr9.old upd_same) ?_
      walk_at "go"
      refine ⟨_, d, ps.map (·.1), rfl, rfl, by rw [List.length_map]; omega, dr9, fun c H10 dr10 hc hn => ?_⟩
      walk_at "go"
      refine i_new (by show 2 ≤ 100000; omega) fun tp ntp => ?_
      walk_at "go"
      have ebL := dr10.old (upd_same (H := A) (a := b) (o := .lst xs))
      have nbt : b ≠ tp := ne_of_none ebL ntp
      have nAt : A tp = none := by
        have := dr10.free ntp
        rw [upd_ne (fun z => nbt z.symm)] at this
        exact this
      have lx : xs.length = ps.length := by
        have := pr.len
        rw [List.length_map] at this
        exact this
      have dr11 := dr10.new (o := .tup [S [c], S w4]) ntp
      rw [upd_comm nbt] at dr11
      have sA2 : Same A (upd A tp (.tup [S [c], S w4])) := same_upd nAt
      have dr12 := Dr.put (o' := .lst (xs ++ [V.ref tp])) dr11 (sA2.seq (sA.seq dr.cells)) ((upd_ne nbt).trans nA)
      refine i_appEnd (l := b) (xs := xs) ((upd_ne nbt).trans ebL) (by omega) ?_
      walk_at "go"
      refine i_ix_lst (v := .ref tp) (.inl (.inl upd_same)) atI_last ?_
      walk_at "go"
      refine i_ix_tup (xs := [S [c], S w4]) (v := S [c]) (.inl (.inl ((upd_ne (fun z => nbt z.symm)).trans upd_same))) (atI_int (by decide) rfl) ?_
      walk_at "go"
      refine ⟨ps ++ [(c, w4)], xs ++ [.ref tp], _, w3, _, _, _, by rw [List.map_append]; rfl, by rw [List.length_append, hl]; rfl, good_add g hi4 hc hn rw4 w41 w42, rw3, w31, w32, sA.trans sA2, (upd_ne nbt).trans nA, ?_, ?_, dr12⟩
      · exact (upd_ne (fun z => dr10.ne ntp z.symm)).trans nd
      · unfold Prs
        rw [List.map_append]
        exact (pr.same sA2).app (.cons (.tup upd_same (by decide : 2 ≤ 10000) (.cons (.str _ (by decide : 1 ≤ 10000)) (.cons (.str _ (by omega)) .nil))) .nil)
  · rintro σ' H' ⟨ps, xs, A, last, v7, v8, v9, rfl, hl, g, rl, l3, l4, sA, nA, nd, pr, dr4⟩
    refine i_cut (fun σ' H' => ∃ pl' : List Nat, ∃ w7 w8 w9 : Option V, σ' = [some (.ref d.a), some (.int 4), some (.int 4), some (S pl'), some (.ref b), some (S (ps.map (·.1))), some (S last), w7, w8, w9] ∧ GoodR pl' 24 ∧ Dr K d (upd A b (.lst xs)) H') ?_ ?_
    · walk_at "go"
      refine ⟨_, d, 8, rfl, rfl, dr4, by decide, fun k2 H9 dr9 b9 => ?_⟩
      walk_at "go"
      refine i_dec (fun a1 => ?_) (fun a1 => ?_)
      · walk_at "go"
        have hlen : (List.replicate 24 pl).flatten.length = 24 * pl.length := repl_len 24 pl
        refine i_mul_strI (l := pl) (k := 24) (by decide) ⟨by show pl.length * 24 ≤ 100000; omega, by decide⟩ ?_
        rw [show (24 : Int).toNat = 24 from rfl]
        have hrr := r1.rep 24
        generalize (List.replicate 24 pl).flatten = rr at *
        walk_at "go"
        exact ⟨rr.take 24, _, _, _, rfl, ⟨hrr.take 24, by rw [List.length_take, hlen]; omega, by rw [List.length_take]; omega⟩, dr9⟩
      · walk_at "go"
        exact ⟨pl, _, _, _, rfl, ⟨r1, l1, by omega⟩, dr9⟩
    rintro σ' H' ⟨pl', w7, w8, w9, rfl, gr, dr9⟩
    walk_at "go"
    refine i_new (by show 2 ≤ 100000; omega) fun tp ntp => ?_
    have nAt : upd A b (.lst xs) tp = none := dr9.free ntp
    have nbt : b ≠ tp := fun z => by rw [← z, upd_same] at nAt; cases nAt
    have s1 : Same A (upd A b (.lst xs)) := same_upd nA
    have s2 : Same (upd A b (.lst xs)) (upd (upd A b (.lst xs)) tp (.tup [S pl', .ref b])) := same_upd nAt
    have nda : (upd A b (.lst xs)) d.a = none := dr4.2.1
    exact q pl' ps tp b xs _ _ (sA.trans (s1.trans s2)) ((upd_ne (fun z => dr9.ne ntp z.symm)).trans nda) gr g ((upd_ne nbt).trans upd_same) (pr.same (s1.trans s2)) upd_same (dr9.new ntp)
end
end K75
namespace K75
open PySem PySem.Spec PyProof.Rows L2 Fg
local macro_rules | `(tactic| walk_at "sq") => `(tactic| first
  | assumption
  | exact .inl (.inl (by assumption))
  | exact .inl (.inl upd_same))
local macro_rules | `(tactic| walk_at "st") => `(tactic| first
  | assumption
  | exact .inl (.inl (by assumption))
  | exact .inl (.inl upd_same))
local macro_rules | `(tactic| walk_at "o") => `(tactic| first
  | omega
  | assumption
  | (simp only [List.length_append, List.length_take, List.length_drop, List.length_cons, List.length_nil, List.length_singleton, List.length_map, List.length_range, Int.toNat_natCast] ; omega))
local macro_rules | `(tactic| walk_at "s") => `(tactic| first
  | (with_reducible refine i_seq ?_)
  | (with_reducible refine i_asg ?_)
  | ((with_reducible refine' i_var ?h1 ?_); (case h1 => rfl))
  | (with_reducible refine i_c ?_)
  | ((with_reducible refine' i_gname' ?h1 ?_); (case h1 => (simp only [List.set_cons_zero, List.set_cons_succ]; rfl)))
  | (with_reducible refine i_op ?_)
  | (with_reducible refine i_ifS ?_)
  | (with_reducible refine i_for ?_)
  | (with_reducible refine i_test ?_)
  | (with_reducible refine i_B ?_)
  | (with_reducible refine i_exbl ?_)
  | (with_reducible refine i_exint ?_)
  | (with_reducible refine i_cb ?_)
  | (with_reducible refine i_nil ?_)
  | (with_reducible refine i_cons ?_)
  | (with_reducible refine i_ret ?_)
  | (with_reducible refine i_sl ?_)
  | (with_reducible refine i_nopart ?_)
  | (with_reducible refine i_part ?_)
  | (with_reducible refine i_add_int ?_)
  | (with_reducible refine i_sub ?_)
  | (with_reducible refine i_lt ?_)
  | ((with_reducible refine' i_mod ?h1 ?_); (case h1 => walk_at "o"))
  | ((with_reducible refine' i_fdiv ?h1 ?_); (case h1 => (refine cdiv_small ?_ ?_ <;> walk_at "o")))
  | ((with_reducible refine' i_sl_to ?h1 ?h2 ?_); (case h1 => walk_at "o"); (case h2 => walk_at "o"))
  | ((with_reducible refine' i_sl_from ?h1 ?h2 ?_); (case h1 => walk_at "o"); (case h2 => walk_at "o"))
  | ((with_reducible refine' i_add_str ?h1 ?_); (case h1 => walk_at "o"))
  | ((with_reducible refine' i_mul_int ?h1 ?_); (case h1 => first | (refine mul_small ?_ ?_ <;> walk_at "o") | (refine mul_smallR ?_ ?_ <;> walk_at "o")))
  | (with_reducible refine i_le ?_)
  | (with_reducible refine i_gt ?_)
  | (with_reducible refine i_ge ?_)
  | (with_reducible refine i_eq_int ?_)
  | (with_reducible refine i_eq_str ?_)
  | (with_reducible refine i_ne_int ?_)
  | (with_reducible refine i_ne_str ?_)
  | (with_reducible refine i_eq_bl ?_)
  | (with_reducible refine i_ne_bl ?_)
  | (with_reducible refine i_in_sg ?_)
  | (with_reducible refine i_notIn_sg ?_)
  | (with_reducible refine i_call ?_)
  | (with_reducible refine i_callS ?_)
  | (with_reducible refine i_sp1 ?_)
  | (with_reducible refine i_sp2 ?_)
  | (with_reducible refine i_sp3 ?_)
  | (with_reducible refine i_sp4 ?_)
  | (with_reducible refine i_sp1' ?_)
  | (with_reducible refine i_sp2' ?_)
  | (with_reducible refine i_sp3' ?_)
  | ((with_reducible refine' i_ix_lst ?h1 ?h2 ?_); (case h1 => walk_at "sq"); (case h2 => first | exact atI_nat rfl | rfl))
  | ((with_reducible refine' i_ix_tup ?h1 ?h2 ?_); (case h1 => walk_at "st"); (case h2 => first | exact atI_nat rfl | rfl))
  | (with_reducible refine i_gsub ?_)
  | (with_reducible refine i_par ?_)
  | (with_reducible refine i_lstRg1 ?_)
  | (with_reducible refine i_app ?_)
  | (with_reducible refine i_par2 ?_)
  | ((with_reducible refine' i_aug ?h1 ?_); (case h1 => rfl))
  | (with_reducible refine i_ipI ?_)
  | ((with_reducible refine' i_gtup2 ?h1 ?_); (case h1 => walk_at "st"))
  | (with_reducible refine i_int_bl ?_)
  | (with_reducible refine i_raise ?_)
  | (with_reducible refine i_mkE ?_)
  | (with_reducible refine i_ex1 ?_)
  | (with_reducible refine i_and ?_)
  | (with_reducible refine i_or ?_)
  | (with_reducible refine i_not ?_)
  | (with_reducible refine i_tt ?_)
  | (with_reducible refine i_ff ?_)
  | (with_reducible refine i_nott ?_)
  | (with_reducible refine i_notf ?_)
  | (with_reducible refine i_andV ?_)
  | (with_reducible refine i_orV ?_)
  | (with_reducible refine i_notV ?_)
  | (with_reducible refine i_ifE ?_)
  | (with_reducible refine i_tup ?_)
  | (with_reducible refine i_lst ?_)
  | (with_reducible refine i_un ?_)
  | (with_reducible refine i_neg ?_)
  | (with_reducible refine i_chain ?_)
  | (with_reducible refine i_next ?_)
  | (with_reducible refine i_retN ?_)
  | (with_reducible refine i_drop ?_)
  | (with_reducible refine i_int_int ?_)
  | (with_reducible refine i_abs ?_)
  | (with_reducible refine i_m1c ?_)
  | (with_reducible refine i_is_non ?_)
  | (with_reducible refine i_is_int ?_)
  | (with_reducible refine i_is_bl ?_)
  | (with_reducible refine i_isn_bl ?_)
  | (with_reducible refine i_is_str ?_)
  | (with_reducible refine i_is_ref ?_)
  | (with_reducible refine i_isn_non ?_)
  | (with_reducible refine i_isn_int ?_)
  | (with_reducible refine i_isn_str ?_)
  | (with_reducible refine i_isn_ref ?_)
  | (with_reducible refine i_len_str ?h1 ?_; (case h1 => walk_at "o"))
  | (with_reducible refine i_callD ?_)
  | (with_reducible refine i_spD2 ?_)
  | (with_reducible refine i_spM1 ?_)
  | (with_reducible refine i_spM2 ?_)
  | (with_reducible refine i_spM3 ?_)
  | (with_reducible refine i_spM4 ?_)
  | (with_reducible refine i_spM3d ?_)
  | (with_reducible refine i_tfld ?_)
  | (with_reducible refine i_sfld ?_)
  | (with_reducible refine i_meth ?_)
  | (with_reducible refine i_make ?_)
  | (with_reducible refine i_spl ?_)
  | (with_reducible refine i_mkE2 ?_)
  | (with_reducible refine i_ex2 ?_)
  | (with_reducible refine i_dget ?_)
  | (with_reducible refine i_tru ?_)
  | (with_reducible refine i_dput ?_)
  | (with_reducible refine i_dnotin ?_)
  | (with_reducible refine i_din ?_)
  | (with_reducible refine i_rev ?_)
  | (with_reducible refine i_isi_int_int ?_) | (with_reducible refine i_isi_int_bool ?_) | (with_reducible refine i_isi_int_str ?_) | (with_reducible refine i_isi_int_tuple ?_) | (with_reducible refine i_isi_int_list ?_)
  | (with_reducible refine i_isi_bl_int ?_) | (with_reducible refine i_isi_bl_bool ?_) | (with_reducible refine i_isi_bl_str ?_) | (with_reducible refine i_isi_bl_tuple ?_) | (with_reducible refine i_isi_bl_list ?_)
  | (with_reducible refine i_isi_str_int ?_) | (with_reducible refine i_isi_str_bool ?_) | (with_reducible refine i_isi_str_str ?_) | (with_reducible refine i_isi_str_tuple ?_) | (with_reducible refine i_isi_str_list ?_)
  | (with_reducible refine i_isi_non_int ?_) | (with_reducible refine i_isi_non_bool ?_) | (with_reducible refine i_isi_non_str ?_) | (with_reducible refine i_isi_non_tuple ?_) | (with_reducible refine i_isi_non_list ?_))
local macro_rules | `(tactic| walk_at "go") => `(tactic| (repeat' (walk_at "s")))
local macro_rules | `(tactic| walk_at "n") => `(tactic| simp only [wipe, List.map_cons, List.map_nil, List.set_cons_zero, List.set_cons_succ])
/-! ### the law's own checks -/
def wrL (m : Int) (l : List Nat) : Option Int := if 1 ≤ l.length ∧ (l.length : Int) ≤ m then (firstBad l).map fun n : Nat => (n : Int) else some (-1)
def wrD (m : Int) : PyData → Option Int
  | .str x => wrL m x.cps.toList
  | _ => some (-1)
def iV : Option Int → V
  | some n => .int n
  | none => .non
section
variable {P : Program} {w : World} {K : PySem.W.Frag} {mg : Str → Option Value} {base : Heap} {C_GlimError C_BadRow C_BadRound C_BadSignal C_BadMessage C_Signals C_dt_Signals___init__ : Addr}
def p_L_wrong_sign : P2 := fun x y H Q _ => ∃ d m, At H x d ∧ y = .int m ∧ ∀ H', Same H H' → Q (iV (wrD m d)) H'
theorem ok_L_wrong_sign (T : Txt K mg C_GlimError C_BadRow C_BadRound C_BadSignal C_BadMessage C_Signals C_dt_Signals___init__) : OK P w K mg base CX0 1 "_law_wrong_sign" ["_law_row", "_law_most"] (sp2  p_L_wrong_sign) := by
  refine OK.mk (k := 0) T.d_L_wrong_sign sc_L_wrong_sign len2 fun f cdv A outer s H vs Q E hr h => ?_
  obtain ⟨x, y, rfl, h⟩ := h
  refine ⟨_, (pss_cons (ps_if (pw_or (pt_not (pt_val (pe_callB (cIsi K) (by rfl) T.b_isinstance (by decide +kernel) (pa_cons (pv 0) (pa_cons (pe_bltn (v := .ty "str") (by rfl) T.b_str (by decide +kernel) rfl) pa_nil))))) (pw_or (pt_cmpR op_ltP (pe_callB (cLen K) (by rfl) T.b_len (by decide +kernel) (pa_cons (pv 0) pa_nil)) pe_int (nomark _)) (pw_or1 (pt_cmpR op_gtP (pe_callB (cLen K) (by rfl) T.b_len (by decide +kernel) (pa_cons (pv 0) pa_nil)) (pv 1) (nomark _))))).pt (pss_one (ps_ret (pe_un un_neg pe_int))) pss_nil) (pss_cons (ps_for PassesOwn.never rfl (pi_range1 rfl T.b_range (pa_cons (pe_callB (cLen K) (by rfl) T.b_len (by decide +kernel) (pa_cons (pv 0) pa_nil)) pa_nil)) (pg_name (i := 2) sc_L_wrong_sign.nd rfl (Or.inl rfl)) (pss_one (ps_if (pt_cmpR (opNotIn K) (pe_ix (ixK K) (pv 0) (pv 2) (fun _ _ => rfl)) (pe_S [46, 103, 114, 119]) (by with_unfolding_all rfl)) (pss_one (ps_ret (pv 2))) pss_nil))) (pss_one (ps_ret pe_non)))), ?_⟩
  show (_ : TS) { nx := fun _ H' => Q .non H', rt := Q } [some x, some y, none] H
  obtain ⟨d, m, hx, rfl, q⟩ := h
  have q0 := q H (Same.refl H)
  cases d
  case str z =>
    obtain ⟨l, rfl, rfl, hl⟩ := hx.strl
    change Q (iV (wrL m l)) H at q0
    unfold wrL at q0
    walk_at "go"
    refine i_dec (fun e1 => ?_) (fun e1 => ?_)
    · rw [if_neg (by omega)] at q0
      walk_at "go"
      exact q0
    walk_at "go"
    refine i_dec (fun e2 => ?_) (fun e2 => ?_)
    · rw [if_neg (by omega)] at q0
      walk_at "go"
      exact q0
    rw [if_pos (by omega)] at q0
    walk_at "go"
    refine i_forR ?_
    walk_at "go"
    refine i_rngD (by omega) (by omega) (fun i σ' H' => ∃ v, σ' = [some (S l), some (.int m), v] ∧ H' = H ∧ ∀ k < i, ∀ c, l[k]? = some c → c ∈ SG) ⟨none, rfl, rfl, by omega⟩ ?_ ?_
    · rintro i σ' H' hi ⟨v, rfl, rfl, hb⟩
      have hlt : i < l.length := by omega
      have hc := List.getElem?_eq_getElem hlt
      walk_at "go"
      refine i_ix_str (by omega) (by omega) hc ?_
      walk_at "go"
      refine i_decN (fun e => ?_) (fun e => ?_)
      · rw [firstBad_some hc e hb] at q0
        walk_at "go"
        exact q0
      · walk_at "go"
        refine ⟨_, rfl, rfl, fun k hk c hk' => ?_⟩
        rcases Nat.lt_or_ge k i with h | h
        · exact hb k h c hk'
        · have : k = i := by omega
          subst this
          rw [hc] at hk'
          cases hk'
          exact e
    · rintro σ' H' ⟨v, rfl, rfl, hb⟩
      rw [firstBad_none fun c hc => by
        obtain ⟨k, hk⟩ := List.getElem?_of_mem hc
        exact hb k (by have := (List.getElem?_eq_some_iff.mp hk).1; omega) c hk] at q0
      walk_at "go"
      exact q0
  all_goals
    walk_at "go"
    refine i_isiStr false hx rfl ?_
    walk_at "go"
    exact q0
end
end K75
namespace K75
open PySem PySem.Spec PyProof.Rows L2 Fg
local macro_rules | `(tactic| walk_at "sq") => `(tactic| first
  | assumption
  | exact .inl (.inl (by assumption))
  | exact .inl (.inl upd_same))
local macro_rules | `(tactic| walk_at "st") => `(tactic| first
  | assumption
  | exact .inl (.inl (by assumption))
  | exact .inl (.inl upd_same))
local macro_rules | `(tactic| walk_at "o") => `(tactic| first
  | omega
  | assumption
  | (simp only [List.length_append, List.length_take, List.length_drop, List.length_cons, List.length_nil, List.length_singleton, List.length_map, List.length_range, Int.toNat_natCast] ; omega))
local macro_rules | `(tactic| walk_at "s") => `(tactic| first
  | (with_reducible refine i_seq ?_)
  | (with_reducible refine i_asg ?_)
  | ((with_reducible refine' i_var ?h1 ?_); (case h1 => rfl))
  | (with_reducible refine i_c ?_)
  | ((with_reducible refine' i_gname' ?h1 ?_); (case h1 => (simp only [List.set_cons_zero, List.set_cons_succ]; rfl)))
  | (with_reducible refine i_op ?_)
  | (with_reducible refine i_ifS ?_)
  | (with_reducible refine i_for ?_)
  | (with_reducible refine i_test ?_)
  | (with_reducible refine i_B ?_)
  | (with_reducible refine i_exbl ?_)
  | (with_reducible refine i_exint ?_)
  | (with_reducible refine i_cb ?_)
  | (with_reducible refine i_nil ?_)
  | (with_reducible refine i_cons ?_)
  | (with_reducible refine i_ret ?_)
  | (with_reducible refine i_sl ?_)
  | (with_reducible refine i_nopart ?_)
  | (with_reducible refine i_part ?_)
  | (with_reducible refine i_add_int ?_)
  | (with_reducible refine i_sub ?_)
  | (with_reducible refine i_lt ?_)
  | ((with_reducible refine' i_mod ?h1 ?_); (case h1 => walk_at "o"))
  | ((with_reducible refine' i_fdiv ?h1 ?_); (case h1 => (refine cdiv_small ?_ ?_ <;> walk_at "o")))
  | ((with_reducible refine' i_sl_to ?h1 ?h2 ?_); (case h1 => walk_at "o"); (case h2 => walk_at "o"))
  | ((with_reducible refine' i_sl_from ?h1 ?h2 ?_); (case h1 => walk_at "o"); (case h2 => walk_at "o"))
  | ((with_reducible refine' i_add_str ?h1 ?_); (case h1 => walk_at "o"))
  | ((with_reducible refine' i_mul_int ?h1 ?_); (case h1 => first | (refine mul_small ?_ ?_ <;> walk_at "o") | (refine mul_smallR ?_ ?_ <;> walk_at "o")))
  | (with_reducible refine i_le ?_)
  | (with_reducible refine i_gt ?_)
  | (with_reducible refine i_ge ?_)
  | (with_reducible refine i_eq_int ?_)
  | (with_reducible refine i_eq_str ?_)
  | (with_reducible refine i_ne_int ?_)
  | (with_reducible refine i_ne_str ?_)
  | (with_reducible refine i_eq_bl ?_)
  | (with_reducible refine i_ne_bl ?_)
  | (with_reducible refine i_in_sg ?_)
  | (with_reducible refine i_notIn_sg ?_)
  | (with_reducible refine i_call ?_)
  | (with_reducible refine i_callS ?_)
  | (with_reducible refine i_sp1 ?_)
  | (with_reducible refine i_sp2 ?_)
  | (with_reducible refine i_sp3 ?_)
  | (with_reducible refine i_sp4 ?_)
  | (with_reducible refine i_sp1' ?_)
  | (with_reducible refine i_sp2' ?_)
  | (with_reducible refine i_sp3' ?_)
  | ((with_reducible refine' i_ix_lst ?h1 ?h2 ?_); (case h1 => walk_at "sq"); (case h2 => first | exact atI_nat rfl | rfl))
  | ((with_reducible refine' i_ix_tup ?h1 ?h2 ?_); (case h1 => walk_at "st"); (case h2 => first | exact atI_nat rfl | rfl))
  | (with_reducible refine i_gsub ?_)
  | (with_reducible refine i_par ?_)
  | (with_reducible refine i_lstRg1 ?_)
  | (with_reducible refine i_app ?_)
  | (with_reducible refine i_par2 ?_)
  | ((with_reducible refine' i_aug ?h1 ?_); (case h1 => rfl))
  | (with_reducible refine i_ipI ?_)
  | ((with_reducible refine' i_gtup2 ?h1 ?_); (case h1 => walk_at "st"))
  | (with_reducible refine i_int_bl ?_)
  | (with_reducible refine i_raise ?_)
  | (with_reducible refine i_mkE ?_)
  | (with_reducible refine i_ex1 ?_)
  | (with_reducible refine i_and ?_)
  | (with_reducible refine i_or ?_)
  | (with_reducible refine i_not ?_)
  | (with_reducible refine i_tt ?_)
  | (with_reducible refine i_ff ?_)
  | (with_reducible refine i_nott ?_)
  | (with_reducible refine i_notf ?_)
  | (with_reducible refine i_andV ?_)
  | (with_reducible refine i_orV ?_)
  | (with_reducible refine i_notV ?_)
  | (with_reducible refine i_ifE ?_)
  | (with_reducible refine i_tup ?_)
  | (with_reducible refine i_lst ?_)
  | (with_reducible refine i_un ?_)
  | (with_reducible refine i_neg ?_)
  | (with_reducible refine i_chain ?_)
  | (with_reducible refine i_next ?_)
  | (with_reducible refine i_retN ?_)
  | (with_reducible refine i_drop ?_)
  | (with_reducible refine i_int_int ?_)
  | (with_reducible refine i_abs ?_)
  | (with_reducible refine i_m1c ?_)
  | (with_reducible refine i_is_non ?_)
  | (with_reducible refine i_is_int ?_)
  | (with_reducible refine i_is_bl ?_)
  | (with_reducible refine i_isn_bl ?_)
  | (with_reducible refine i_is_str ?_)
  | (with_reducible refine i_is_ref ?_)
  | (with_reducible refine i_isn_non ?_)
  | (with_reducible refine i_isn_int ?_)
  | (with_reducible refine i_isn_str ?_)
  | (with_reducible refine i_isn_ref ?_)
  | (with_reducible refine i_len_str ?h1 ?_; (case h1 => walk_at "o"))
  | (with_reducible refine i_callD ?_)
  | (with_reducible refine i_spD2 ?_)
  | (with_reducible refine i_spM1 ?_)
  | (with_reducible refine i_spM2 ?_)
  | (with_reducible refine i_spM3 ?_)
  | (with_reducible refine i_spM4 ?_)
  | (with_reducible refine i_spM3d ?_)
  | (with_reducible refine i_tfld ?_)
  | (with_reducible refine i_sfld ?_)
  | (with_reducible refine i_meth ?_)
  | (with_reducible refine i_make ?_)
  | (with_reducible refine i_spl ?_)
  | (with_reducible refine i_mkE2 ?_)
  | (with_reducible refine i_ex2 ?_)
  | (with_reducible refine i_dget ?_)
  | (with_reducible refine i_tru ?_)
  | (with_reducible refine i_dput ?_)
  | (with_reducible refine i_dnotin ?_)
  | (with_reducible refine i_din ?_)
  | (with_reducible refine i_rev ?_)
  | (with_reducible refine i_isi_int_int ?_) | (with_reducible refine i_isi_int_bool ?_) | (with_reducible refine i_isi_int_str ?_) | (with_reducible refine i_isi_int_tuple ?_) | (with_reducible refine i_isi_int_list ?_)
  | (with_reducible refine i_isi_bl_int ?_) | (with_reducible refine i_isi_bl_bool ?_) | (with_reducible refine i_isi_bl_str ?_) | (with_reducible refine i_isi_bl_tuple ?_) | (with_reducible refine i_isi_bl_list ?_)
  | (with_reducible refine i_isi_str_int ?_) | (with_reducible refine i_isi_str_bool ?_) | (with_reducible refine i_isi_str_str ?_) | (with_reducible refine i_isi_str_tuple ?_) | (with_reducible refine i_isi_str_list ?_)
  | (with_reducible refine i_isi_non_int ?_) | (with_reducible refine i_isi_non_bool ?_) | (with_reducible refine i_isi_non_str ?_) | (with_reducible refine i_isi_non_tuple ?_) | (with_reducible refine i_isi_non_list ?_))
local macro_rules | `(tactic| walk_at "go") => `(tactic| (repeat' (walk_at "s")))
local macro_rules | `(tactic| walk_at "n") => `(tactic| simp only [wipe, List.map_cons, List.map_nil, List.set_cons_zero, List.set_cons_succ])
/-! ### pairs handed over, as lists or tuples; spoilt behind -/
def mkP (b : Bool) (p : Nat × List Nat) : HO := bif b then .lst [S [p.1], S p.2] else .tup [S [p.1], S p.2]
/-- what is handed over; P: what stood before -/
inductive Told (P : Addr → Prop) (H : Hp) (ps : Tb) : V → Prop
  | tup {t : Addr} {ys : List V} : ¬ P t → H t = some (.tup ys) → AtAll H ys (ps.map sgP) → Told P H ps (.ref t)
  | lst {t : Addr} {l : List V} (b : Bool) : ¬ P t → H t = some (.lst l) → l.length = ps.length → (∀ (k : Nat) (p : Nat × List Nat), ps[k]? = some p → ∃ c, l[k]? = some (V.ref c) ∧ ¬ P c ∧ c ≠ t ∧ H c = some (mkP b p)) → Told P H ps (.ref t)
theorem Told.same {P : Addr → Prop} {H H' : Hp} {ps : Tb} {v : V} (h : Told P H ps v) (s : Same H H') : Told P H' ps v := by
  cases h with
  | tup n e al => exact .tup n (s _ _ e) (al.same s)
  | lst b n e l k => exact .lst b n (s _ _ e) l (fun i p hp => by
      obtain ⟨c, h1, h2, h3, h4⟩ := k i p hp
      exact ⟨c, h1, h2, h3, s _ _ h4⟩)
theorem Told.more {P : Addr → Prop} {H : Hp} {ps : Tb} {v : V} {q : Addr} (h : Told P H ps v) (n : H q = none) : Told (fun b => P b ∨ b = q) H ps v := by
  cases h with
  | tup m e al => exact .tup (fun z => z.elim m fun z => by rw [z, n] at e; cases e) e al
  | lst b m e l k => exact .lst b (fun z => z.elim m fun z => by rw [z, n] at e; cases e) e l (fun i p hp => by
      obtain ⟨c, h1, h2, h3, h4⟩ := k i p hp
      exact ⟨c, h1, fun z => z.elim h2 fun z => by rw [z, n] at h4; (cases hb : b <;> rw [hb] at h4 <;> cases h4), h3, h4⟩)
def sgL (b : Bool) (p : Nat × List Nat) : PyData := bif b then .list [dS [p.1], dS p.2] else sgP p
theorem mkP_at {H : Hp} {b : Bool} {p : Nat × List Nat} {c : Addr} (h : H c = some (mkP b p)) (l : p.2.length ≤ 12) : At H (.ref c) (sgL b p) := by
  cases b
  · exact .tup h (by decide : 2 ≤ 10000) (.cons (.str _ (by decide : 1 ≤ 10000)) (.cons (.str _ (by omega)) .nil))
  · exact .lst h (by decide : 2 ≤ 10000) (.cons (.str _ (by decide : 1 ≤ 10000)) (.cons (.str _ (by omega)) .nil))
theorem deep_sgL (b : Bool) (ps : Tb) : (ps.map (sgL b)).map deepD = ps.map sgP := by
  rw [List.map_map]
  congr 1
  funext p
  cases b <;> rfl
/-- small data -/
structure SmD (d : PyData) : Prop where
  dep : d.depth ≤ 3
  rp : Rp 100 d
  nd : d.hasDict = false
theorem sgL_sm {p : Nat × List Nat} (b : Bool) (h1 : p.1 ∈ AZ) (h2 : p.2.length ≤ 12) (h3 : ∀ c ∈ p.2, c ∈ SG) : (sgL b p).depth ≤ 1 ∧ Rp 26 (sgL b p) ∧ (sgL b p).hasDict = false := by
  have az : ∀ c ∈ AZ, c < 16 ^ 8 := by decide
  have sg : ∀ c ∈ SG, c < 16 ^ 8 := by decide
  have r : ∀ d ∈ [dS [p.1], dS p.2], Rp 12 d := fun d hd => by
    rcases List.mem_cons.mp hd with rfl | hd
    · exact Rp.str (by simp) fun c hc => by rw [List.mem_singleton.mp hc]; exact az _ h1
    · rw [List.mem_singleton.mp hd]
      exact Rp.str h2 fun c hc => sg _ (h3 c hc)
  cases b
  · exact ⟨by simp [sgL, sgP, PyData.depth, PyData.depthAll], Rp.tuple r, rfl⟩
  · exact ⟨by simp [sgL, PyData.depth, PyData.depthAll], Rp.list r, rfl⟩
theorem dep_all {n : Nat} : ∀ {ds : List PyData}, (∀ d ∈ ds, d.depth ≤ n) → PyData.depthAll ds ≤ n
  | [], _ => Nat.zero_le _
  | d :: r, h => by
    show max d.depth (PyData.depthAll r) ≤ n
    have h1 := h d (List.mem_cons_self ..)
    have h2 := dep_all (ds := r) fun e he => h e (List.mem_cons_of_mem _ he)
    omega
theorem nd_all : ∀ {ds : List PyData}, (∀ d ∈ ds, d.hasDict = false) → PyData.hasDictAll ds = false
  | [], _ => rfl
  | d :: r, h => by
    show (d.hasDict || PyData.hasDictAll r) = false
    rw [h d (List.mem_cons_self ..), nd_all fun e he => h e (List.mem_cons_of_mem _ he)]
    rfl
theorem sgLs_sm {ps : Tb} (b : Bool) (g : GoodT ps) : (∀ d ∈ ps.map (sgL b), d.depth ≤ 1 ∧ Rp 26 d ∧ d.hasDict = false) := fun d hd => by
  obtain ⟨p, hp, rfl⟩ := List.mem_map.mp hd
  exact sgL_sm b (g.az p hp) (g.lw p hp) (firstBad_sg (g.ok p hp))
theorem sm_list {ds : List PyData} (h : ∀ d ∈ ds, d.depth ≤ 1 ∧ Rp 26 d ∧ d.hasDict = false) (l : ds.length ≤ 4) : (PyData.list ds).depth ≤ 3 ∧ Rp 200 (.list ds) ∧ (PyData.list ds).hasDict = false := by
  refine ⟨?_, (Rp.list fun d hd => (h d hd).2.1).mono (by omega), nd_all fun d hd => (h d hd).2.2⟩
  show PyData.depthAll ds + 1 ≤ 3
  have := dep_all fun d hd => (h d hd).1
  omega
theorem sm_tuple {ds : List PyData} (h : ∀ d ∈ ds, d.depth ≤ 1 ∧ Rp 26 d ∧ d.hasDict = false) (l : ds.length ≤ 4) : (PyData.tuple ds).depth ≤ 3 ∧ Rp 200 (.tuple ds) ∧ (PyData.tuple ds).hasDict = false := by
  refine ⟨?_, (Rp.tuple fun d hd => (h d hd).2.1).mono (by omega), nd_all fun d hd => (h d hd).2.2⟩
  show PyData.depthAll ds + 1 ≤ 3
  have := dep_all fun d hd => (h d hd).1
  omega
theorem told_at {P : Addr → Prop} {H : Hp} {ps : Tb} {v : V} (h : Told P H ps v) (g : GoodT ps) : ∃ d, At H v d ∧ deepD d = sgT ps ∧ d.depth ≤ 3 ∧ Rp 200 d ∧ d.hasDict = false := by
  have gl := g.ln
  cases h with
  | @tup t ys n e al =>
    have ll := al.len
    rw [List.length_map] at ll
    have e0 : ps.map (sgL false) = ps.map sgP := rfl
    refine ⟨sgT ps, .tup e (by omega) al, ?_, by
      rw [show sgT ps = .tuple (ps.map (sgL false)) from rfl]
      exact sm_tuple (sgLs_sm false g) (by rw [List.length_map]; exact gl)⟩
    have := deep_sgL false ps
    show PyData.tuple (deepD.deepDs (ps.map sgP)) = _
    rw [deepDs_map]
    exact congrArg PyData.tuple this
  | @lst t l b n e ll k =>
    refine ⟨.list (ps.map (sgL b)), .lst e (by omega) (atAll_of (by rw [List.length_map]; exact ll) fun i v d hv hd => ?_), ?_, sm_list (sgLs_sm b g) (by rw [List.length_map]; exact gl)⟩
    · rw [List.getElem?_map] at hd
      obtain ⟨p, hp, rfl⟩ := Option.map_eq_some_iff.mp hd
      obtain ⟨c, h1, _, _, h4⟩ := k i p hp
      rw [hv] at h1
      cases h1
      exact mkP_at h4 (g.lw p (List.mem_of_getElem? hp))
    · show PyData.tuple (deepD.deepDs (ps.map (sgL b))) = _
      rw [deepDs_map]
      exact congrArg PyData.tuple (deep_sgL b ps)
/-- lists that are new may change -/
def Kept (P : Addr → Prop) (H H' : Hp) : Prop := ∀ b o, H b = some o → ((∀ xs, o ≠ .lst xs) ∨ P b) → H' b = some o
theorem Kept.refl {P : Addr → Prop} {H : Hp} : Kept P H H := fun _ _ e _ => e
theorem Kept.put {P : Addr → Prop} {H G : Hp} {q : Addr} {xs : List V} {o : HO} (h : Kept P H G) (e : H q = some (.lst xs)) (n : ¬ P q) : Kept P H (upd G q o) := fun b u hb hc => by
  have : b ≠ q := fun z => by
    subst z
    rcases hc with hc | hc
    · rw [e] at hb
      cases hb
      exact hc _ rfl
    · exact n hc
  rw [upd_ne this]
  exact h b u hb hc
theorem Kept.new {P : Addr → Prop} {H G : Hp} {q : Addr} {o : HO} (h : Kept P H G) (n : H q = none) : Kept P H (upd G q o) := fun b u hb hc => by
  rw [upd_ne (ne_of_none hb n)]
  exact h b u hb hc
theorem Kept.smT {P : Addr → Prop} {H H' : Hp} (h : Kept P H H') : SmT H H' := fun b ys e => h b _ e (.inl fun xs => nofun)
section
variable {K : PySem.W.Frag}
theorem Dr.max {d : Dd} {Hk H : Hp} (h : Dr K d Hk H) : Dr K d (wo H d.a) H :=
  h.know (fun b o e => by rw [wo_ne (ne_of_none e h.2.1)]; exact h.1 _ _ e) wo_sub wo_same
end
section
variable {P : Program} {w : World} {K : PySem.W.Frag} {mg : Str → Option Value} {base : Heap} {C_GlimError C_BadRow C_BadRound C_BadSignal C_BadMessage C_Signals C_dt_Signals___init__ : Addr}
theorem prs_get {H : Hp} {xs : List V} {ps : Tb} {i : Nat} {x : V} (h : Prs H xs ps) (hi : xs[i]? = some x) : ∃ p c, ps[i]? = some p ∧ x = .ref c ∧ H c = some (.tup [S [p.1], S p.2]) := by
  obtain ⟨e, he, ae⟩ := AtAll.get h hi
  rw [List.getElem?_map] at he
  obtain ⟨p, hp, rfl⟩ := Option.map_eq_some_iff.mp he
  obtain ⟨c, ys, rfl, hc, _, ay⟩ := ae.tupled
  cases ay with
  | cons a1 ay =>
  cases ay with
  | cons a2 ay =>
  cases ay
  obtain ⟨l1, rfl, el1, _⟩ := a1.strl
  obtain rfl : [p.1] = l1 := List.toArray_inj (congrArg PySem.Str.cps el1)
  obtain ⟨l2, rfl, el2, _⟩ := a2.strl
  obtain rfl : p.2 = l2 := List.toArray_inj (congrArg PySem.Str.cps el2)
  exact ⟨p, c, hp, rfl, hc⟩
theorem Prs.len {H : Hp} {xs : List V} {ps : Tb} (h : Prs H xs ps) : xs.length = ps.length := by
  have := AtAll.len h
  rw [List.length_map] at this
  exact this
def p_L_formed (K : PySem.W.Frag) : P2 := fun x y H Q _ => ∃ H0 d b xs ps, x = .ref d.a ∧ y = .ref b ∧ Dr K d H0 H ∧ H0 b = some (.lst xs) ∧ Prs H0 xs ps ∧ GoodT ps ∧
  ∀ G v H', Dr K d H0 G → Same G H' → Told (fun c => G c ≠ none) H' ps v → Q v H'
theorem ok_L_formed (T : Txt K mg C_GlimError C_BadRow C_BadRound C_BadSignal C_BadMessage C_Signals C_dt_Signals___init__) : OK P w K mg base CX0 3 "_law_formed" ["_law_draw_here", "_law_pairs"] (sp2  (p_L_formed K)) := by
  refine OK.mk (k := 2) T.d_L_formed sc_L_formed len2 fun f cdv A outer s H vs Q E hr h => ?_
  obtain ⟨x, y, rfl, h⟩ := h
  refine ⟨_, (pss_cons (ps_set (i := 2) sc_L_formed.nd rfl (Or.inl rfl) (pe_f (ok_L_pick (K := K) T) (hr.mono (by decide)) pass0 (pa_cons (pv 0) (pa_cons pe_int pa_nil)))) (pss_cons (ps_if (pt_cmpR (opEq K hr.units) (pv 2) pe_int (nomark _)) (pss_one (ps_ret (pe_lc (own := [("_law_pair", 3)]) (g := gName 3) (tt := tYes) (by rfl) sc_L_formed.nd (piAny K (pv 1)) (blkOk_by (own := [("_law_pair", 3)]) (N := ["_law_draw_here", "_law_pairs", "_law_kind", "_law_pair"]) (sc := (defScope s_L_formed)) (by decide +kernel)) (fun _ _ _ _ _ => (pg_name (i := 3) sc_L_formed.nd rfl (Or.inl rfl))) (fun _ _ _ _ _ => pts_nil) (fun _ _ _ _ _ => (pe_lst (pa_cons (pe_ix (ixK K) (pv 3) pe_int (fun _ _ => rfl)) (pa_cons (pe_ix (ixK K) (pv 3) pe_int (fun _ _ => rfl)) pa_nil))))))) pss_nil) (pss_cons (ps_if (pt_cmpR (opEq K hr.units) (pv 2) pe_int (nomark _)) (pss_one (ps_ret (pe_lc (own := [("_law_pair", 3)]) (g := gName 3) (tt := tYes) (by rfl) sc_L_formed.nd (piAny K (pv 1)) (blkOk_by (own := [("_law_pair", 3)]) (N := ["_law_draw_here", "_law_pairs", "_law_kind", "_law_pair"]) (sc := (defScope s_L_formed)) (by decide +kernel)) (fun _ _ _ _ _ => (pg_name (i := 3) sc_L_formed.nd rfl (Or.inl rfl))) (fun _ _ _ _ _ => pts_nil) (fun _ _ _ _ _ => (pe_tup (pa_cons (pe_ix (ixK K) (pv 3) pe_int (fun _ _ => rfl)) (pa_cons (pe_ix (ixK K) (pv 3) pe_int (fun _ _ => rfl)) pa_nil))))))) pss_nil) (pss_one (ps_ret (pe_callTy (cTup K) (by rfl) T.b_tuple (by decide +kernel) (pa_cons (pe_lc (own := [("_law_pair", 3)]) (g := gName 3) (tt := tYes) (by rfl) sc_L_formed.nd (piAny K (pv 1)) (blkOk_by (own := [("_law_pair", 3)]) (N := ["_law_draw_here", "_law_pairs", "_law_kind", "_law_pair"]) (sc := (defScope s_L_formed)) (by decide +kernel)) (fun _ _ _ _ _ => (pg_name (i := 3) sc_L_formed.nd rfl (Or.inl rfl))) (fun _ _ _ _ _ => pts_nil) (fun _ _ _ _ _ => (pe_tup (pa_cons (pe_ix (ixK K) (pv 3) pe_int (fun _ _ => rfl)) (pa_cons (pe_ix (ixK K) (pv 3) pe_int (fun _ _ => rfl)) pa_nil))))) pa_nil))))))), ?_⟩
  show (_ : TS) { nx := fun _ H' => Q .non H', rt := Q } [some x, some y, none, none] H
  obtain ⟨H0, d, b, xs, ps, rfl, rfl, dr, hb, pr, g, q⟩ := h
  have lx := pr.len
  have gl := g.ln
  walk_at "go"
  refine ⟨H0, d, 3, rfl, rfl, dr, by decide, fun n G dr1 b1 => ?_⟩
  walk_at "go"
  have hx := dr1.old hb
  have pr1 : Prs G xs ps := AtAll.same pr dr1.1
  have fin : ∀ (bb : Bool) Dl G1 l, G Dl = none → Same G G1 → G1 Dl = some (.lst l) → l.length = xs.length → (∀ k < xs.length, ∃ c, l[k]? = some (.ref c) ∧ G c = none ∧ c ≠ Dl ∧ G1 c = some (mkP bb (ps.getD k (0, [])))) → Told (fun c => G c ≠ none) G1 ps (.ref Dl) := fun bb Dl G1 l n1 s1 e1 ll hk =>
    .lst bb (fun z => z n1) e1 (by omega) fun k p hp => by
      have hk' := (List.getElem?_eq_some_iff.mp hp).1
      obtain ⟨c, h1, h2, h3, h4⟩ := hk k (by omega)
      refine ⟨c, h1, fun z => z h2, h3, ?_⟩
      rw [h4, List.getD_eq_getElem?_getD, hp]
      rfl
  refine i_dec (fun e0 => ?_) (fun e0 => ?_)
  · walk_at "go"
    refine c_new (fun i => mkP true (ps.getD i (0, []))) (fun R k => by walk_at "go"; exact k) (.inl (.inl hx)) (by omega) (fun _ => rfl) (fun i x G1 hi s1 QV k => ?_) (fun Dl G1 l n1 s1 e1 ll hk => ?_)
    · obtain ⟨p, c, hp, rfl, hc⟩ := prs_get pr1 hi
      have hc1 := s1 _ _ hc
      show (_ : TE) [some (.ref d.a), some (.ref b), some (.int n), some (.ref c)] G1 QV
      have ep : ps.getD i (0, []) = p := by rw [List.getD_eq_getElem?_getD, hp]; rfl
      rw [ep] at k
      walk_at "go"
      exact ⟨by show 2 ≤ sizeLine; decide, k⟩
    · exact q G _ G1 dr1 s1 (fin true Dl G1 l n1 s1 e1 ll hk)
  have el : ∀ {i : Nat} {x : V} {G1 : Hp}, xs[i]? = some x → Same G G1 → ∃ p c, x = .ref c ∧ ps.getD i (0, []) = p ∧ G1 c = some (.tup [S [p.1], S p.2]) := fun hi s1 => by
    obtain ⟨p, c, hp, rfl, hc⟩ := prs_get pr1 hi
    exact ⟨p, c, rfl, by rw [List.getD_eq_getElem?_getD, hp]; rfl, s1 _ _ hc⟩
  walk_at "go"
  refine i_dec (fun e1 => ?_) (fun e1 => ?_)
  · walk_at "go"
    refine c_new (fun i => mkP false (ps.getD i (0, []))) (fun R k => by walk_at "go"; exact k) (.inl (.inl hx)) (by omega) (fun _ => rfl) (fun i x G1 hi s1 QV k => ?_) (fun Dl G1 l n1 s1 e1 ll hk => ?_)
    · obtain ⟨p, c, rfl, ep, hc1⟩ := el hi s1
      show (_ : TE) [some (.ref d.a), some (.ref b), some (.int n), some (.ref c)] G1 QV
      rw [ep] at k
      walk_at "go"
      exact ⟨by show 2 ≤ sizeLine; decide, k⟩
    · exact q G _ G1 dr1 s1 (fin false Dl G1 l n1 s1 e1 ll hk)
  · walk_at "go"
    refine c_new (fun i => mkP false (ps.getD i (0, []))) (fun R k => by walk_at "go"; exact k) (.inl (.inl hx)) (by omega) (fun _ => rfl) (fun i x G1 hi s1 QV k => ?_) (fun Dl G1 l n1 s1 e1 ll hk => ?_)
    · obtain ⟨p, c, rfl, ep, hc1⟩ := el hi s1
      show (_ : TE) [some (.ref d.a), some (.ref b), some (.int n), some (.ref c)] G1 QV
      rw [ep] at k
      walk_at "go"
      exact ⟨by show 2 ≤ sizeLine; decide, k⟩
    · walk_at "go"
      refine i_tuple_lst (.inl (.inl e1)) fun t nt => ?_
      have td := fin false Dl G1 l n1 s1 e1 ll hk
      have s2 : Same G1 (upd G1 t (.tup l)) := same_upd nt
      refine q G _ _ dr1 (s1.trans s2) (.tup (fun z => z (s1.free nt)) upd_same ?_)
      refine AtAll.same (atAll_of (by rw [List.length_map]; omega) fun i v e hv he => ?_) s2
      rw [List.getElem?_map] at he
      obtain ⟨p, hp, rfl⟩ := Option.map_eq_some_iff.mp he
      have hk' := (List.getElem?_eq_some_iff.mp hp).1
      obtain ⟨c, h1, _, _, h4⟩ := hk i (by omega)
      rw [hv] at h1
      cases h1
      rw [List.getD_eq_getElem?_getD, hp] at h4
      exact mkP_at (b := false) h4 (g.lw p (List.mem_of_getElem? hp))
def p_L_spoil : P1 := fun x H Q _ => ∃ P ps, Told P H ps x ∧ ps.length ≤ 4 ∧ ∀ H', Kept P H H' → Q .non H'
theorem ok_L_spoil (T : Txt K mg C_GlimError C_BadRow C_BadRound C_BadSignal C_BadMessage C_Signals C_dt_Signals___init__) : OK P w K mg base CX0 1 "_law_spoil" ["_law_told"] (sp1  p_L_spoil) := by
  refine OK.mk (k := 0) T.d_L_spoil sc_L_spoil len1 fun f cdv A outer s H vs Q E hr h => ?_
  obtain ⟨x, rfl, h⟩ := h
  refine ⟨_, (pss_one (ps_if (pt_val (pe_callB (cIsi K) (by rfl) T.b_isinstance (by decide +kernel) (pa_cons (pv 0) (pa_cons (pe_bltn (v := .ty "list") (by rfl) T.b_list (by decide +kernel) rfl) pa_nil)))) (Evl.pss_cut (ps_if (pw_and (ptTruth K (pv 0) (fun _ => rfl)) (pw_and1 (pt_val (pe_callB (cIsi K) (by rfl) T.b_isinstance (by decide +kernel) (pa_cons (pe_ix (ixK K) (pv 0) pe_int (fun _ _ => rfl)) (pa_cons (pe_bltn (v := .ty "list") (by rfl) T.b_list (by decide +kernel) rfl) pa_nil)))))).pt (pss_cons (ps_asg (pe_S [103, 103, 103]) (pg_sub (pe_ix (ixK K) (pv 0) pe_int (fun _ _ => rfl)) pe_int set_list)) (pss_one (ps_expr (peApp K (pe_ix (ixK K) (pv 0) pe_int (fun _ _ => rfl)) (pa_cons (pe_S [119]) pa_nil))))) pss_nil) (pss_one (ps_expr (peApp K (pv 0) (pa_cons (pe_tup (pa_cons (pe_S [113]) (pa_cons (pe_S [119]) pa_nil))) pa_nil))))) pss_nil)), ?_⟩
  show (_ : TS) { nx := fun _ H' => Q .non H', rt := Q } [some x] H
  obtain ⟨P, ps, td, l4, q⟩ := h
  cases td with
  | @tup t ys n e al =>
    walk_at "go"
    refine i_isi_tup_list e ?_
    walk_at "go"
    exact q H Kept.refl
  | @lst t l b n e al hk =>
    walk_at "go"
    refine i_isi_lst_list e ?_
    walk_at "go"
    have fin : ∀ G, Kept P H G → G t = some (.lst l) → ∀ R : VK, True := fun _ _ _ _ => trivial
    refine i_cut (fun σ G => σ = [some (.ref t)] ∧ Kept P H G ∧ G t = some (.lst l)) ?_ ?_
    · walk_at "go"
      refine i_truL e ?_
      cases ps with
      | nil =>
        cases l with
        | nil =>
          show (if (false : Bool) = true then _ else _)
          walk_at "go"
          exact ⟨rfl, Kept.refl, e⟩
        | cons x r => cases al
      | cons p ps =>
      obtain ⟨c, h1, h2, h3, h4⟩ := hk 0 p rfl
      cases l with
      | nil => cases h1
      | cons x r =>
      cases h1
      show (if (true : Bool) = true then _ else _)
      walk_at "go"
      cases b with
      | false =>
        refine i_isi_tup_list h4 ?_
        walk_at "go"
        exact ⟨rfl, Kept.refl, e⟩
      | true =>
        have ct : t ≠ c := h3.symm
        refine i_isi_lst_list h4 ?_
        walk_at "go"
        refine i_setL 1 h4 rfl rfl ?_
        walk_at "go"
        refine i_ix_lst (v := .ref c) (.inl (.inl ((upd_ne ct).trans e))) (atI_int (z := 0) (by decide) rfl) ?_
        walk_at "go"
        refine i_appAt upd_same ?_
        walk_at "go"
        refine i_appEnd upd_same (by show 2 < 100000; decide) ?_
        walk_at "go"
        exact ⟨rfl, (Kept.refl.put h4 h2).put h4 h2, (upd_ne ct).trans ((upd_ne ct).trans e)⟩
    · rintro σ G ⟨rfl, kp, eG⟩
      walk_at "go"
      refine i_appAt eG ?_
      walk_at "go"
      refine i_new (by show 2 ≤ 100000; omega) fun tp ntp => ?_
      walk_at "go"
      have ne : t ≠ tp := ne_of_none eG ntp
      refine i_appEnd ((upd_ne ne).trans eG) (by omega) ?_
      walk_at "go"
      refine q _ (Kept.put ?_ e n)
      intro b' u hb hc
      have := kp b' u hb hc
      rw [upd_ne (ne_of_none this ntp)]
      exact this
end
end K75
namespace K75
open PySem PySem.Spec PyProof.Rows L2 Fg
local macro_rules | `(tactic| walk_at "sq") => `(tactic| first
  | assumption
  | exact .inl (.inl (by assumption))
  | exact .inl (.inl upd_same))
local macro_rules | `(tactic| walk_at "st") => `(tactic| first
  | assumption
  | exact .inl (.inl (by assumption))
  | exact .inl (.inl upd_same))
local macro_rules | `(tactic| walk_at "o") => `(tactic| first
  | omega
  | assumption
  | (simp only [List.length_append, List.length_take, List.length_drop, List.length_cons, List.length_nil, List.length_singleton, List.length_map, List.length_range, Int.toNat_natCast] ; omega))
local macro_rules | `(tactic| walk_at "s") => `(tactic| first
  | (with_reducible refine i_seq ?_)
  | (with_reducible refine i_asg ?_)
  | ((with_reducible refine' i_var ?h1 ?_); (case h1 => rfl))
  | (with_reducible refine i_c ?_)
  | ((with_reducible refine' i_gname' ?h1 ?_); (case h1 => (simp only [List.set_cons_zero, List.set_cons_succ]; rfl)))
  | (with_reducible refine i_op ?_)
  | (with_reducible refine i_ifS ?_)
  | (with_reducible refine i_for ?_)
  | (with_reducible refine i_test ?_)
  | (with_reducible refine i_B ?_)
  | (with_reducible refine i_exbl ?_)
  | (with_reducible refine i_exint ?_)
  | (with_reducible refine i_cb ?_)
  | (with_reducible refine i_nil ?_)
  | (with_reducible refine i_cons ?_)
  | (with_reducible refine i_ret ?_)
  | (with_reducible refine i_sl ?_)
  | (with_reducible refine i_nopart ?_)
  | (with_reducible refine i_part ?_)
  | (with_reducible refine i_add_int ?_)
  | (with_reducible refine i_sub ?_)
  | (with_reducible refine i_lt ?_)
  | ((with_reducible refine' i_mod ?h1 ?_); (case h1 => walk_at "o"))
  | ((with_reducible refine' i_fdiv ?h1 ?_); (case h1 => (refine cdiv_small ?_ ?_ <;> walk_at "o")))
  | ((with_reducible refine' i_sl_to ?h1 ?h2 ?_); (case h1 => walk_at "o"); (case h2 => walk_at "o"))
  | ((with_reducible refine' i_sl_from ?h1 ?h2 ?_); (case h1 => walk_at "o"); (case h2 => walk_at "o"))
  | ((with_reducible refine' i_add_str ?h1 ?_); (case h1 => walk_at "o"))
  | ((with_reducible refine' i_mul_int ?h1 ?_); (case h1 => first | (refine mul_small ?_ ?_ <;> walk_at "o") | (refine mul_smallR ?_ ?_ <;> walk_at "o")))
  | (with_reducible refine i_le ?_)
  | (with_reducible refine i_gt ?_)
  | (with_reducible refine i_ge ?_)
  | (with_reducible refine i_eq_int ?_)
  | (with_reducible refine i_eq_str ?_)
  | (with_reducible refine i_ne_int ?_)
  | (with_reducible refine i_ne_str ?_)
  | (with_reducible refine i_eq_bl ?_)
  | (with_reducible refine i_ne_bl ?_)
  | (with_reducible refine i_in_sg ?_)
  | (with_reducible refine i_notIn_sg ?_)
  | (with_reducible refine i_call ?_)
  | (with_reducible refine i_callS ?_)
  | (with_reducible refine i_sp1 ?_)
  | (with_reducible refine i_sp2 ?_)
  | (with_reducible refine i_sp3 ?_)
  | (with_reducible refine i_sp4 ?_)
  | (with_reducible refine i_sp1' ?_)
  | (with_reducible refine i_sp2' ?_)
  | (with_reducible refine i_sp3' ?_)
  | ((with_reducible refine' i_ix_lst ?h1 ?h2 ?_); (case h1 => walk_at "sq"); (case h2 => first | exact atI_nat rfl | rfl))
  | ((with_reducible refine' i_ix_tup ?h1 ?h2 ?_); (case h1 => walk_at "st"); (case h2 => first | exact atI_nat rfl | rfl))
  | (with_reducible refine i_gsub ?_)
  | (with_reducible refine i_par ?_)
  | (with_reducible refine i_lstRg1 ?_)
  | (with_reducible refine i_app ?_)
  | (with_reducible refine i_par2 ?_)
  | ((with_reducible refine' i_aug ?h1 ?_); (case h1 => rfl))
  | (with_reducible refine i_ipI ?_)
  | ((with_reducible refine' i_gtup2 ?h1 ?_); (case h1 => walk_at "st"))
  | (with_reducible refine i_int_bl ?_)
  | (with_reducible refine i_raise ?_)
  | (with_reducible refine i_mkE ?_)
  | (with_reducible refine i_ex1 ?_)
  | (with_reducible refine i_and ?_)
  | (with_reducible refine i_or ?_)
  | (with_reducible refine i_not ?_)
  | (with_reducible refine i_tt ?_)
  | (with_reducible refine i_ff ?_)
  | (with_reducible refine i_nott ?_)
  | (with_reducible refine i_notf ?_)
  | (with_reducible refine i_andV ?_)
  | (with_reducible refine i_orV ?_)
  | (with_reducible refine i_notV ?_)
  | (with_reducible refine i_ifE ?_)
  | (with_reducible refine i_tup ?_)
  | (with_reducible refine i_lst ?_)
  | (with_reducible refine i_un ?_)
  | (with_reducible refine i_neg ?_)
  | (with_reducible refine i_chain ?_)
  | (with_reducible refine i_next ?_)
  | (with_reducible refine i_retN ?_)
  | (with_reducible refine i_drop ?_)
  | (with_reducible refine i_int_int ?_)
  | (with_reducible refine i_abs ?_)
  | (with_reducible refine i_m1c ?_)
  | (with_reducible refine i_is_non ?_)
  | (with_reducible refine i_is_int ?_)
  | (with_reducible refine i_is_bl ?_)
  | (with_reducible refine i_isn_bl ?_)
  | (with_reducible refine i_is_str ?_)
  | (with_reducible refine i_is_ref ?_)
  | (with_reducible refine i_isn_non ?_)
  | (with_reducible refine i_isn_int ?_)
  | (with_reducible refine i_isn_str ?_)
  | (with_reducible refine i_isn_ref ?_)
  | (with_reducible refine i_len_str ?h1 ?_; (case h1 => walk_at "o"))
  | (with_reducible refine i_callD ?_)
  | (with_reducible refine i_spD2 ?_)
  | (with_reducible refine i_spM1 ?_)
  | (with_reducible refine i_spM2 ?_)
  | (with_reducible refine i_spM3 ?_)
  | (with_reducible refine i_spM4 ?_)
  | (with_reducible refine i_spM3d ?_)
  | (with_reducible refine i_tfld ?_)
  | (with_reducible refine i_sfld ?_)
  | (with_reducible refine i_meth ?_)
  | (with_reducible refine i_make ?_)
  | (with_reducible refine i_spl ?_)
  | (with_reducible refine i_mkE2 ?_)
  | (with_reducible refine i_ex2 ?_)
  | (with_reducible refine i_dget ?_)
  | (with_reducible refine i_tru ?_)
  | (with_reducible refine i_dput ?_)
  | (with_reducible refine i_dnotin ?_)
  | (with_reducible refine i_din ?_)
  | (with_reducible refine i_rev ?_)
  | (with_reducible refine i_isi_int_int ?_) | (with_reducible refine i_isi_int_bool ?_) | (with_reducible refine i_isi_int_str ?_) | (with_reducible refine i_isi_int_tuple ?_) | (with_reducible refine i_isi_int_list ?_)
  | (with_reducible refine i_isi_bl_int ?_) | (with_reducible refine i_isi_bl_bool ?_) | (with_reducible refine i_isi_bl_str ?_) | (with_reducible refine i_isi_bl_tuple ?_) | (with_reducible refine i_isi_bl_list ?_)
  | (with_reducible refine i_isi_str_int ?_) | (with_reducible refine i_isi_str_bool ?_) | (with_reducible refine i_isi_str_str ?_) | (with_reducible refine i_isi_str_tuple ?_) | (with_reducible refine i_isi_str_list ?_)
  | (with_reducible refine i_isi_non_int ?_) | (with_reducible refine i_isi_non_bool ?_) | (with_reducible refine i_isi_non_str ?_) | (with_reducible refine i_isi_non_tuple ?_) | (with_reducible refine i_isi_non_list ?_))
local macro_rules | `(tactic| walk_at "go") => `(tactic| (repeat' (walk_at "s")))
local macro_rules | `(tactic| walk_at "n") => `(tactic| simp only [wipe, List.map_cons, List.map_nil, List.set_cons_zero, List.set_cons_succ])
/-! ### odd rounds, odd signals -/
section
variable {K : PySem.W.Frag} {d : Dd} {A G H : Hp} {Q : VK} {o : HO} {n : Nat}
theorem i_newD (dr : Dr K d A G) (hz : n ≤ 100000) (q : ∀ p A' G', Same A A' → A' p = some o → Dr K d A' G' → Q (.ref p) G') : n ≤ sizeLine ∧ ∀ p, G p = none → Q (.ref p) (upd G p o) :=
  ⟨Nat.le_trans hz (by decide), fun p np => q p _ _ (same_upd (dr.free np)) upd_same (dr.new np)⟩
theorem i_dnewD {σ : L2.St} (dr : Dr K d A G) (q : ∀ p A' G', Same A A' → A' p = some (.dK []) → Dr K d A' G' → Q (.ref p) G') : tDNewK σ G Q :=
  i_dnewK fun p np => q p _ _ (same_upd (dr.free np)) upd_same (dr.new np)
theorem pick_in {xs : List V} {n : Int} (b : Btw n (xs.length : Int)) (h2 : 2 ≤ xs.length) : ∃ v, atI xs n = some v ∧ xs[n.toNat]? = some v := by
  have n0 := b.1
  have n1 := b.2.1 (by omega)
  have hn : n.toNat < xs.length := by omega
  exact ⟨xs[n.toNat], atI_int n0 (List.getElem?_eq_getElem hn), List.getElem?_eq_getElem hn⟩
end
def sigB (e : PyData) : Bool := (!e.hasDict || match e with | .dict [] => true | _ => false) && (decide (e.depth ≤ 3) && rpB 60 e)
structure SigE (e : PyData) : Prop where
  fl : flatE e
  dep : e.depth ≤ 3
  rp : Rp 60 e
theorem sig_of_b {e : PyData} (h : sigB e = true) : SigE e := by
  unfold sigB at h
  rw [Bool.and_eq_true, Bool.and_eq_true, decide_eq_true_eq, Bool.or_eq_true] at h
  refine ⟨h.1.imp (fun z => by simpa using z) fun z => ?_, h.2.1, rp_of h.2.2⟩
  match e, z with
  | .dict [], _ => rfl
theorem sigs_of_b {es : List PyData} (h : es.all sigB = true) : ∀ e ∈ es, SigE e := fun e he => sig_of_b (List.all_eq_true.mp h e he)
section
variable {P : Program} {w : World} {K : PySem.W.Frag} {mg : Str → Option Value} {base : Heap} {C_GlimError C_BadRow C_BadRound C_BadSignal C_BadMessage C_Signals C_dt_Signals___init__ : Addr}
def p_L_odd_round (K : PySem.W.Frag) : P1 := fun x H Q _ => ∃ H0 d, x = .ref d.a ∧ Dr K d H0 H ∧ ∀ A H' v e, Same H0 A → Dr K d A H' → At A v e → Q v H'
theorem ok_L_odd_round (T : Txt K mg C_GlimError C_BadRow C_BadRound C_BadSignal C_BadMessage C_Signals C_dt_Signals___init__) : OK P w K mg base CX0 3 "_law_odd_round" ["_law_draw_here"] (sp1  (p_L_odd_round K)) := by
  refine OK.mk (k := 2) T.d_L_odd_round sc_L_odd_round len1 fun f cdv A outer s H vs Q E hr h => ?_
  obtain ⟨x, rfl, h⟩ := h
  refine ⟨_, (pss_cons (ps_set (i := 1) sc_L_odd_round.nd rfl (Or.inl rfl) (pe_lst (pa_cons (pe_S []) (pa_cons (pe_S [120]) (pa_cons (pe_op op_mulP (pe_S [119]) pe_int) (pa_cons (pe_op (opAdd K) (pe_op op_mulP (pe_S [119]) pe_int) (pe_S [48])) (pa_cons pe_non (pa_cons pe_int (pa_cons (pe_tup (pa_cons (pe_S [119]) (pa_cons (pe_S [46]) pa_nil))) (pa_cons (pe_lst (pa_cons (pe_S [119]) pa_nil)) (pa_cons (pe_S [32, 119]) (pa_cons (pe_S [119, 46, 120, 46, 120]) (pa_cons (pe_S [87]) (pa_cons (pe_op op_mulP (pe_S [119]) pe_int) (pa_cons (pe_S [46]) pa_nil))))))))))))))) (pss_one (ps_ret (pe_ix (ixK K) (pv 1) (pe_f (ok_L_pick (K := K) T) (hr.mono (by decide)) pass0 (pa_cons (pv 0) (pa_cons (pe_callB (cLen K) (by rfl) T.b_len (by decide +kernel) (pa_cons (pv 1) pa_nil)) pa_nil))) (fun _ _ => rfl))))), ?_⟩
  show (_ : TS) { nx := fun _ H' => Q .non H', rt := Q } [some x, none] H
  obtain ⟨H0, d, rfl, dr, q⟩ := h
  walk_at "go"
  refine i_mul_strI (l := [119]) (k := 25) (by decide) ⟨by decide, by decide⟩ ?_
  walk_at "go"
  refine i_mul_strI (l := [119]) (k := 23) (by decide) ⟨by decide, by decide⟩ ?_
  walk_at "go"
  refine i_add_str (by decide) ?_
  walk_at "go"
  refine i_new (by show 2 ≤ 100000; omega) fun p1 np1 => ?_
  obtain ⟨A1, s1, e1, d1⟩ := dr.step (HO.tup [(S [119]), (S [46])]) np1
  generalize upd H p1 (HO.tup [(S [119]), (S [46])]) = G1 at *
  have h1 : At A1 (.ref p1) (.tuple [(dS [119]), (dS [46])]) := .tup e1 (by decide : 2 ≤ 10000) (.cons (.str _ (by decide)) (.cons (.str _ (by decide)) .nil))
  walk_at "go"
  refine i_new (by show 1 ≤ 100000; omega) fun p2 np2 => ?_
  obtain ⟨A2, s2, e2, d2⟩ := d1.step (HO.lst [(S [119])]) np2
  generalize upd G1 p2 (HO.lst [(S [119])]) = G2 at *
  have h2 : At A2 (.ref p2) (.list [(dS [119])]) := .lst e2 (by decide : 1 ≤ 10000) (.cons (.str _ (by decide)) .nil)
  walk_at "go"
  refine i_mul_strI (l := [119]) (k := 24) (by decide) ⟨by decide, by decide⟩ ?_
  walk_at "go"
  refine i_new (by show 13 ≤ 100000; omega) fun p3 np3 => ?_
  obtain ⟨A3, s3, e3, d3⟩ := d2.step (HO.lst [(S []), (S [120]), (S (List.replicate (25 : Int).toNat [119]).flatten), (S ((List.replicate (23 : Int).toNat [119]).flatten ++ [48])), V.non, (V.int 7), (V.ref p1), (V.ref p2), (S [32, 119]), (S [119, 46, 120, 46, 120]), (S [87]), (S (List.replicate (24 : Int).toNat [119]).flatten), (S [46])]) np3
  generalize upd G2 p3 (HO.lst [(S []), (S [120]), (S (List.replicate (25 : Int).toNat [119]).flatten), (S ((List.replicate (23 : Int).toNat [119]).flatten ++ [48])), V.non, (V.int 7), (V.ref p1), (V.ref p2), (S [32, 119]), (S [119, 46, 120, 46, 120]), (S [87]), (S (List.replicate (24 : Int).toNat [119]).flatten), (S [46])]) = G3 at *
  have h3 : At A3 (.ref p3) (.list [(dS []), (dS [120]), (dS (List.replicate (25 : Int).toNat [119]).flatten), (dS ((List.replicate (23 : Int).toNat [119]).flatten ++ [48])), PyData.none, (.int 7), (.tuple [(dS [119]), (dS [46])]), (.list [(dS [119])]), (dS [32, 119]), (dS [119, 46, 120, 46, 120]), (dS [87]), (dS (List.replicate (24 : Int).toNat [119]).flatten), (dS [46])]) := .lst e3 (by decide : 13 ≤ 10000) (.cons (.str _ (by decide)) (.cons (.str _ (by decide)) (.cons (.str _ (by decide)) (.cons (.str _ (by decide)) (.cons .non (.cons (.int _) (.cons ((h1.same s2).same s3) (.cons (h2.same s3) (.cons (.str _ (by decide)) (.cons (.str _ (by decide)) (.cons (.str _ (by decide)) (.cons (.str _ (by decide)) (.cons (.str _ (by decide)) .nil)))))))))))))
  walk_at "go"
  obtain ⟨_, xs, ez, hxs, _, al⟩ := h3.listed
  cases ez
  have ll := AtAll.len al
  refine i_len_lst (.inl (.inl (d3.old hxs))) ?_
  walk_at "go"
  refine ⟨_, d, _, rfl, rfl, d3, by rw [ll]; decide, fun n G dr2 bn => ?_⟩
  obtain ⟨v, hv, hv'⟩ := pick_in bn (by rw [ll]; decide)
  obtain ⟨e, he, ae⟩ := al.get hv'
  refine i_ix_lst (.inl (.inl (dr2.old hxs))) hv ?_
  exact q _ G v e ((s1.trans s2).trans s3) dr2 ae
def p_L_odd_signal (K : PySem.W.Frag) : P2 := fun x y H Q _ => ∃ H0 d b xs ps, x = .ref d.a ∧ y = .ref b ∧ Dr K d H0 H ∧ H0 b = some (.lst xs) ∧ Prs H0 xs ps ∧ GoodT ps ∧
  ∀ A H' v e, Same H0 A → Dr K d A H' → At A v e → SigE e → Q v H'
theorem ok_L_odd_signal (T : Txt K mg C_GlimError C_BadRow C_BadRound C_BadSignal C_BadMessage C_Signals C_dt_Signals___init__) : OK P w K mg base CX0 3 "_law_odd_signal" ["_law_draw_here", "_law_pairs"] (sp2  (p_L_odd_signal K)) := by
  refine OK.mk (k := 2) T.d_L_odd_signal sc_L_odd_signal len2 fun f cdv A outer s H vs Q E hr h => ?_
  obtain ⟨x, y, rfl, h⟩ := h
  refine ⟨_, (Evl.pss_cut (ps_set (i := 2) sc_L_odd_signal.nd rfl (Or.inl rfl) (pe_lst (pa_cons pe_non (pa_cons pe_int (pa_cons (pe_S [113, 119]) (pa_cons (pe_S [113]) (pa_cons (pe_tup pa_nil) (pa_cons (pe_tup (pa_cons (pe_S [113]) pa_nil)) (pa_cons (pe_tup (pa_cons (pe_S [113]) (pa_cons (pe_S [119]) (pa_cons (pe_S [119]) pa_nil)))) (pa_cons (pe_lst (pa_cons (pe_S [113]) pa_nil)) (pa_cons (pe_tup (pa_cons (pe_S []) (pa_cons (pe_S [119]) pa_nil))) (pa_cons (pe_tup (pa_cons (pe_S [113, 113]) (pa_cons (pe_S [119]) pa_nil))) (pa_cons (pe_tup (pa_cons (pe_S [81]) (pa_cons (pe_S [119]) pa_nil))) (pa_cons (pe_tup (pa_cons (pe_S [48]) (pa_cons (pe_S [119]) pa_nil))) pa_nil)))))))))))))) (Evl.pss_cut (ps_set (i := 2) sc_L_odd_signal.nd rfl (Or.inl rfl) (pe_op (opAdd K) (pv 2) (pe_lst (pa_cons (pe_tup (pa_cons pe_int (pa_cons (pe_S [119]) pa_nil))) (pa_cons (pe_tup (pa_cons pe_non (pa_cons (pe_S [119]) pa_nil))) (pa_cons (pe_tup (pa_cons (pe_tup (pa_cons (pe_S [113]) pa_nil)) (pa_cons (pe_S [119]) pa_nil))) (pa_cons (pe_tup (pa_cons (pe_S [113]) (pa_cons (pe_S []) pa_nil))) (pa_cons (pe_tup (pa_cons (pe_S [113]) (pa_cons (pe_S [119, 46, 120]) pa_nil))) (pa_cons (pe_tup (pa_cons (pe_S [113]) (pa_cons (pe_S [120]) pa_nil))) (pa_cons (pe_tup (pa_cons (pe_S [113]) (pa_cons (pe_op op_mulP (pe_S [119]) pe_int) pa_nil))) pa_nil)))))))))) (Evl.pss_cut (ps_set (i := 2) sc_L_odd_signal.nd rfl (Or.inl rfl) (pe_op (opAdd K) (pv 2) (pe_lst (pa_cons (pe_tup (pa_cons (pe_S [113]) (pa_cons pe_non pa_nil))) (pa_cons (pe_tup (pa_cons (pe_S [113]) (pa_cons pe_int pa_nil))) (pa_cons (pe_tup (pa_cons (pe_S [113]) (pa_cons (pe_tup (pa_cons (pe_S [119]) (pa_cons (pe_S [46]) pa_nil))) pa_nil))) (pa_cons (pe_lst (pa_cons (pe_S [113]) (pa_cons (pe_lst (pa_cons (pe_S [119]) pa_nil)) pa_nil))) (pa_cons (pe_tup (pa_cons (pe_S [32]) (pa_cons (pe_S [119]) pa_nil))) (pa_cons (pe_tup (pa_cons (pe_S [45]) (pa_cons (pe_S [46]) pa_nil))) (pa_cons (pe_tup (pa_cons (pe_S [113]) (pa_cons (pe_S [87]) pa_nil))) (pa_cons pe_dnewK pa_nil))))))))))) (Evl.pss_cut (ps_set (i := 2) sc_L_odd_signal.nd rfl (Or.inl rfl) (pe_op (opAdd K) (pv 2) (pe_lst (pa_cons (pe_tup (pa_cons (pe_S [113]) (pa_cons (pe_op op_mulP (pe_S [119]) pe_int) pa_nil))) (pa_cons (pe_lst (pa_cons (pe_S [122]) (pa_cons (pe_S [46]) pa_nil))) (pa_cons (pe_lst (pa_cons (pe_S [97]) (pa_cons (pe_S [103, 114, 119, 46]) pa_nil))) (pa_cons (pe_tup (pa_cons (pe_S [109]) (pa_cons (pe_S [119]) pa_nil))) pa_nil))))))) (pss_cons (ps_set (i := 3) sc_L_odd_signal.nd rfl (Or.inl rfl) (pe_f (ok_L_pick (K := K) T) (hr.mono (by decide)) pass0 (pa_cons (pv 0) (pa_cons (pe_op (opAdd K) (pe_callB (cLen K) (by rfl) T.b_len (by decide +kernel) (pa_cons (pv 2) pa_nil)) pe_int) pa_nil)))) (pss_cons (ps_if (pt_cmpR op_ltP (pv 3) (pe_callB (cLen K) (by rfl) T.b_len (by decide +kernel) (pa_cons (pv 2) pa_nil)) (nomark _)) (pss_one (ps_ret (pe_ix (ixK K) (pv 2) (pv 3) (fun _ _ => rfl)))) pss_nil) (pss_cons (ps_if (ptTruth K (pv 1) (fun _ => rfl)) (pss_one (ps_ret (pe_tup (pa_cons (pe_ix (ixK K) (pe_ix (ixK K) (pv 1) (pe_f (ok_L_pick (K := K) T) (hr.mono (by decide)) pass0 (pa_cons (pv 0) (pa_cons (pe_callB (cLen K) (by rfl) T.b_len (by decide +kernel) (pa_cons (pv 1) pa_nil)) pa_nil))) (fun _ _ => rfl)) pe_int (fun _ _ => rfl)) (pa_cons (pe_S [103, 46]) pa_nil))))) pss_nil) (pss_one (ps_ret (pe_tup (pa_cons (pe_S [101]) (pa_cons (pe_S [114]) pa_nil)))))))))))), ?_⟩
  show (_ : TS) { nx := fun _ H' => Q .non H', rt := Q } [some x, some y, none, none] H
  obtain ⟨H0, d, b, xs, ps, rfl, rfl, dr, hb, pr, g, q⟩ := h
  have dr0 := dr
  walk_at "go"
  refine i_cut (fun σ G => ∃ (A : Hp) (m : Addr) (xs1 : List V) (es : List PyData), σ = [some (.ref d.a), some (.ref b), some (.ref m), none] ∧ Same H0 A ∧ Dr K d A G ∧ A m = some (.lst xs1) ∧ AtAll A xs1 es ∧ (∀ e ∈ es, SigE e) ∧ es.length ≤ 12 ∧ 2 ≤ es.length) ?_ ?_
  · walk_at "go"
    refine i_new (by show 0 ≤ 100000; omega) fun p1 np1 => ?_
    obtain ⟨A1, s1, e1, d1⟩ := dr.step (HO.tup []) np1
    generalize upd H p1 (HO.tup []) = G1 at *
    have h1 : At A1 (.ref p1) (.tuple []) := .tup e1 (by decide : 0 ≤ 10000) .nil
    walk_at "go"
    refine i_new (by show 1 ≤ 100000; omega) fun p2 np2 => ?_
    obtain ⟨A2, s2, e2, d2⟩ := d1.step (HO.tup [(S [113])]) np2
    generalize upd G1 p2 (HO.tup [(S [113])]) = G2 at *
    have h2 : At A2 (.ref p2) (.tuple [(dS [113])]) := .tup e2 (by decide : 1 ≤ 10000) (.cons (.str _ (by decide)) .nil)
    walk_at "go"
    refine i_new (by show 3 ≤ 100000; omega) fun p3 np3 => ?_
    obtain ⟨A3, s3, e3, d3⟩ := d2.step (HO.tup [(S [113]), (S [119]), (S [119])]) np3
    generalize upd G2 p3 (HO.tup [(S [113]), (S [119]), (S [119])]) = G3 at *
    have h3 : At A3 (.ref p3) (.tuple [(dS [113]), (dS [119]), (dS [119])]) := .tup e3 (by decide : 3 ≤ 10000) (.cons (.str _ (by decide)) (.cons (.str _ (by decide)) (.cons (.str _ (by decide)) .nil)))
    walk_at "go"
    refine i_new (by show 1 ≤ 100000; omega) fun p4 np4 => ?_
    obtain ⟨A4, s4, e4, d4⟩ := d3.step (HO.lst [(S [113])]) np4
    generalize upd G3 p4 (HO.lst [(S [113])]) = G4 at *
    have h4 : At A4 (.ref p4) (.list [(dS [113])]) := .lst e4 (by decide : 1 ≤ 10000) (.cons (.str _ (by decide)) .nil)
    walk_at "go"
    refine i_new (by show 2 ≤ 100000; omega) fun p5 np5 => ?_
    obtain ⟨A5, s5, e5, d5⟩ := d4.step (HO.tup [(S []), (S [119])]) np5
    generalize upd G4 p5 (HO.tup [(S []), (S [119])]) = G5 at *
    have h5 : At A5 (.ref p5) (.tuple [(dS []), (dS [119])]) := .tup e5 (by decide : 2 ≤ 10000) (.cons (.str _ (by decide)) (.cons (.str _ (by decide)) .nil))
    walk_at "go"
    refine i_new (by show 2 ≤ 100000; omega) fun p6 np6 => ?_
    obtain ⟨A6, s6, e6, d6⟩ := d5.step (HO.tup [(S [113, 113]), (S [119])]) np6
    generalize upd G5 p6 (HO.tup [(S [113, 113]), (S [119])]) = G6 at *
    have h6 : At A6 (.ref p6) (.tuple [(dS [113, 113]), (dS [119])]) := .tup e6 (by decide : 2 ≤ 10000) (.cons (.str _ (by decide)) (.cons (.str _ (by decide)) .nil))
    walk_at "go"
    refine i_new (by show 2 ≤ 100000; omega) fun p7 np7 => ?_
    obtain ⟨A7, s7, e7, d7⟩ := d6.step (HO.tup [(S [81]), (S [119])]) np7
    generalize upd G6 p7 (HO.tup [(S [81]), (S [119])]) = G7 at *
    have h7 : At A7 (.ref p7) (.tuple [(dS [81]), (dS [119])]) := .tup e7 (by decide : 2 ≤ 10000) (.cons (.str _ (by decide)) (.cons (.str _ (by decide)) .nil))
    walk_at "go"
    refine i_new (by show 2 ≤ 100000; omega) fun p8 np8 => ?_
    obtain ⟨A8, s8, e8, d8⟩ := d7.step (HO.tup [(S [48]), (S [119])]) np8
    generalize upd G7 p8 (HO.tup [(S [48]), (S [119])]) = G8 at *
    have h8 : At A8 (.ref p8) (.tuple [(dS [48]), (dS [119])]) := .tup e8 (by decide : 2 ≤ 10000) (.cons (.str _ (by decide)) (.cons (.str _ (by decide)) .nil))
    walk_at "go"
    refine i_new (by show 12 ≤ 100000; omega) fun p9 np9 => ?_
    obtain ⟨A9, s9, e9, d9⟩ := d8.step (HO.lst [V.non, (V.int 7), (S [113, 119]), (S [113]), (V.ref p1), (V.ref p2), (V.ref p3), (V.ref p4), (V.ref p5), (V.ref p6), (V.ref p7), (V.ref p8)]) np9
    generalize upd G8 p9 (HO.lst [V.non, (V.int 7), (S [113, 119]), (S [113]), (V.ref p1), (V.ref p2), (V.ref p3), (V.ref p4), (V.ref p5), (V.ref p6), (V.ref p7), (V.ref p8)]) = G9 at *
    have h9 : At A9 (.ref p9) (.list [PyData.none, (.int 7), (dS [113, 119]), (dS [113]), (.tuple []), (.tuple [(dS [113])]), (.tuple [(dS [113]), (dS [119]), (dS [119])]), (.list [(dS [113])]), (.tuple [(dS []), (dS [119])]), (.tuple [(dS [113, 113]), (dS [119])]), (.tuple [(dS [81]), (dS [119])]), (.tuple [(dS [48]), (dS [119])])]) := .lst e9 (by decide : 12 ≤ 10000) (.cons .non (.cons (.int _) (.cons (.str _ (by decide)) (.cons (.str _ (by decide)) (.cons ((((((((h1.same s2).same s3).same s4).same s5).same s6).same s7).same s8).same s9) (.cons (((((((h2.same s3).same s4).same s5).same s6).same s7).same s8).same s9) (.cons ((((((h3.same s4).same s5).same s6).same s7).same s8).same s9) (.cons (((((h4.same s5).same s6).same s7).same s8).same s9) (.cons ((((h5.same s6).same s7).same s8).same s9) (.cons (((h6.same s7).same s8).same s9) (.cons ((h7.same s8).same s9) (.cons (h8.same s9) .nil))))))))))))
    walk_at "go"
    have al : AtAll A9 _ [PyData.none, (.int 7), (dS [113, 119]), (dS [113]), (.tuple []), (.tuple [(dS [113])]), (.tuple [(dS [113]), (dS [119]), (dS [119])]), (.list [(dS [113])]), (.tuple [(dS []), (dS [119])]), (.tuple [(dS [113, 113]), (dS [119])]), (.tuple [(dS [81]), (dS [119])]), (.tuple [(dS [48]), (dS [119])])] := (.cons .non (.cons (.int _) (.cons (.str _ (by decide)) (.cons (.str _ (by decide)) (.cons ((((((((h1.same s2).same s3).same s4).same s5).same s6).same s7).same s8).same s9) (.cons (((((((h2.same s3).same s4).same s5).same s6).same s7).same s8).same s9) (.cons ((((((h3.same s4).same s5).same s6).same s7).same s8).same s9) (.cons (((((h4.same s5).same s6).same s7).same s8).same s9) (.cons ((((h5.same s6).same s7).same s8).same s9) (.cons (((h6.same s7).same s8).same s9) (.cons ((h7.same s8).same s9) (.cons (h8.same s9) .nil))))))))))))
    have ok : ∀ e ∈ [PyData.none, (.int 7), (dS [113, 119]), (dS [113]), (.tuple []), (.tuple [(dS [113])]), (.tuple [(dS [113]), (dS [119]), (dS [119])]), (.list [(dS [113])]), (.tuple [(dS []), (dS [119])]), (.tuple [(dS [113, 113]), (dS [119])]), (.tuple [(dS [81]), (dS [119])]), (.tuple [(dS [48]), (dS [119])])], SigE e := sigs_of_b (by decide +kernel)
    exact ⟨A9, p9, _, _, rfl, ((((((((s1.trans s2).trans s3).trans s4).trans s5).trans s6).trans s7).trans s8).trans s9), d9, e9, al, ok, by decide, by decide⟩
  clear dr
  rintro σ G0 ⟨A0, m, xs1, es, rfl, sA, dr, em, al0, ok0, el, eg⟩
  walk_at "go"
  refine i_cut (fun σ G => ∃ (A : Hp) (m : Addr) (xs1 : List V) (es : List PyData), σ = [some (.ref d.a), some (.ref b), some (.ref m), none] ∧ Same H0 A ∧ Dr K d A G ∧ A m = some (.lst xs1) ∧ AtAll A xs1 es ∧ (∀ e ∈ es, SigE e) ∧ es.length ≤ 19 ∧ 2 ≤ es.length) ?_ ?_
  · walk_at "go"
    refine i_new (by show 2 ≤ 100000; omega) fun p1 np1 => ?_
    obtain ⟨A1, s1, e1, d1⟩ := dr.step (HO.tup [(V.int 7), (S [119])]) np1
    generalize upd G0 p1 (HO.tup [(V.int 7), (S [119])]) = G1 at *
    have h1 : At A1 (.ref p1) (.tuple [(.int 7), (dS [119])]) := .tup e1 (by decide : 2 ≤ 10000) (.cons (.int _) (.cons (.str _ (by decide)) .nil))
    walk_at "go"
    refine i_new (by show 2 ≤ 100000; omega) fun p2 np2 => ?_
    obtain ⟨A2, s2, e2, d2⟩ := d1.step (HO.tup [V.non, (S [119])]) np2
    generalize upd G1 p2 (HO.tup [V.non, (S [119])]) = G2 at *
    have h2 : At A2 (.ref p2) (.tuple [PyData.none, (dS [119])]) := .tup e2 (by decide : 2 ≤ 10000) (.cons .non (.cons (.str _ (by decide)) .nil))
    walk_at "go"
    refine i_new (by show 1 ≤ 100000; omega) fun p3 np3 => ?_
    obtain ⟨A3, s3, e3, d3⟩ := d2.step (HO.tup [(S [113])]) np3
    generalize upd G2 p3 (HO.tup [(S [113])]) = G3 at *
    have h3 : At A3 (.ref p3) (.tuple [(dS [113])]) := .tup e3 (by decide : 1 ≤ 10000) (.cons (.str _ (by decide)) .nil)
    walk_at "go"
    refine i_new (by show 2 ≤ 100000; omega) fun p4 np4 => ?_
    obtain ⟨A4, s4, e4, d4⟩ := d3.step (HO.tup [(V.ref p3), (S [119])]) np4
    generalize upd G3 p4 (HO.tup [(V.ref p3), (S [119])]) = G4 at *
    have h4 : At A4 (.ref p4) (.tuple [(.tuple [(dS [113])]), (dS [119])]) := .tup e4 (by decide : 2 ≤ 10000) (.cons (h3.same s4) (.cons (.str _ (by decide)) .nil))
    walk_at "go"
    refine i_new (by show 2 ≤ 100000; omega) fun p5 np5 => ?_
    obtain ⟨A5, s5, e5, d5⟩ := d4.step (HO.tup [(S [113]), (S [])]) np5
    generalize upd G4 p5 (HO.tup [(S [113]), (S [])]) = G5 at *
    have h5 : At A5 (.ref p5) (.tuple [(dS [113]), (dS [])]) := .tup e5 (by decide : 2 ≤ 10000) (.cons (.str _ (by decide)) (.cons (.str _ (by decide)) .nil))
    walk_at "go"
    refine i_new (by show 2 ≤ 100000; omega) fun p6 np6 => ?_
    obtain ⟨A6, s6, e6, d6⟩ := d5.step (HO.tup [(S [113]), (S [119, 46, 120])]) np6
    generalize upd G5 p6 (HO.tup [(S [113]), (S [119, 46, 120])]) = G6 at *
    have h6 : At A6 (.ref p6) (.tuple [(dS [113]), (dS [119, 46, 120])]) := .tup e6 (by decide : 2 ≤ 10000) (.cons (.str _ (by decide)) (.cons (.str _ (by decide)) .nil))
    walk_at "go"
    refine i_new (by show 2 ≤ 100000; omega) fun p7 np7 => ?_
    obtain ⟨A7, s7, e7, d7⟩ := d6.step (HO.tup [(S [113]), (S [120])]) np7
    generalize upd G6 p7 (HO.tup [(S [113]), (S [120])]) = G7 at *
    have h7 : At A7 (.ref p7) (.tuple [(dS [113]), (dS [120])]) := .tup e7 (by decide : 2 ≤ 10000) (.cons (.str _ (by decide)) (.cons (.str _ (by decide)) .nil))
    walk_at "go"
    refine i_mul_strI (l := [119]) (k := 13) (by decide) ⟨by decide, by decide⟩ ?_
    walk_at "go"
    refine i_new (by show 2 ≤ 100000; omega) fun p8 np8 => ?_
    obtain ⟨A8, s8, e8, d8⟩ := d7.step (HO.tup [(S [113]), (S (List.replicate (13 : Int).toNat [119]).flatten)]) np8
    generalize upd G7 p8 (HO.tup [(S [113]), (S (List.replicate (13 : Int).toNat [119]).flatten)]) = G8 at *
    have h8 : At A8 (.ref p8) (.tuple [(dS [113]), (dS (List.replicate (13 : Int).toNat [119]).flatten)]) := .tup e8 (by decide : 2 ≤ 10000) (.cons (.str _ (by decide)) (.cons (.str _ (by decide)) .nil))
    walk_at "go"
    refine i_new (by show 7 ≤ 100000; omega) fun p9 np9 => ?_
    obtain ⟨A9, s9, e9, d9⟩ := d8.step (HO.lst [(V.ref p1), (V.ref p2), (V.ref p4), (V.ref p5), (V.ref p6), (V.ref p7), (V.ref p8)]) np9
    generalize upd G8 p9 (HO.lst [(V.ref p1), (V.ref p2), (V.ref p4), (V.ref p5), (V.ref p6), (V.ref p7), (V.ref p8)]) = G9 at *
    have h9 : At A9 (.ref p9) (.list [(.tuple [(.int 7), (dS [119])]), (.tuple [PyData.none, (dS [119])]), (.tuple [(.tuple [(dS [113])]), (dS [119])]), (.tuple [(dS [113]), (dS [])]), (.tuple [(dS [113]), (dS [119, 46, 120])]), (.tuple [(dS [113]), (dS [120])]), (.tuple [(dS [113]), (dS (List.replicate (13 : Int).toNat [119]).flatten)])]) := .lst e9 (by decide : 7 ≤ 10000) (.cons ((((((((h1.same s2).same s3).same s4).same s5).same s6).same s7).same s8).same s9) (.cons (((((((h2.same s3).same s4).same s5).same s6).same s7).same s8).same s9) (.cons (((((h4.same s5).same s6).same s7).same s8).same s9) (.cons ((((h5.same s6).same s7).same s8).same s9) (.cons (((h6.same s7).same s8).same s9) (.cons ((h7.same s8).same s9) (.cons (h8.same s9) .nil)))))))
    walk_at "go"
    have al : AtAll A9 _ [(.tuple [(.int 7), (dS [119])]), (.tuple [PyData.none, (dS [119])]), (.tuple [(.tuple [(dS [113])]), (dS [119])]), (.tuple [(dS [113]), (dS [])]), (.tuple [(dS [113]), (dS [119, 46, 120])]), (.tuple [(dS [113]), (dS [120])]), (.tuple [(dS [113]), (dS (List.replicate (13 : Int).toNat [119]).flatten)])] := (.cons ((((((((h1.same s2).same s3).same s4).same s5).same s6).same s7).same s8).same s9) (.cons (((((((h2.same s3).same s4).same s5).same s6).same s7).same s8).same s9) (.cons (((((h4.same s5).same s6).same s7).same s8).same s9) (.cons ((((h5.same s6).same s7).same s8).same s9) (.cons (((h6.same s7).same s8).same s9) (.cons ((h7.same s8).same s9) (.cons (h8.same s9) .nil)))))))
    have ok : ∀ e ∈ [(.tuple [(.int 7), (dS [119])]), (.tuple [PyData.none, (dS [119])]), (.tuple [(.tuple [(dS [113])]), (dS [119])]), (.tuple [(dS [113]), (dS [])]), (.tuple [(dS [113]), (dS [119, 46, 120])]), (.tuple [(dS [113]), (dS [120])]), (.tuple [(dS [113]), (dS (List.replicate (13 : Int).toNat [119]).flatten)])], SigE e := sigs_of_b (by decide +kernel)
    refine i_catL (d9.old (((((((((s1.trans s2).trans s3).trans s4).trans s5).trans s6).trans s7).trans s8).trans s9) _ _ em)) (d9.old e9) (by rw [AtAll.len al0, AtAll.len al]; show es.length + 7 ≤ 100000; omega) fun pN nN => ?_
    walk_at "go"
    have sN := same_upd (o := .lst (xs1 ++ [(V.ref p1), (V.ref p2), (V.ref p4), (V.ref p5), (V.ref p6), (V.ref p7), (V.ref p8)])) (d9.free nN)
    exact ⟨_, pN, _, _, rfl, ((sA.trans ((((((((s1.trans s2).trans s3).trans s4).trans s5).trans s6).trans s7).trans s8).trans s9)).trans sN), d9.new nN, upd_same, ((al0.same ((((((((s1.trans s2).trans s3).trans s4).trans s5).trans s6).trans s7).trans s8).trans s9)).app al).same sN, fun e he => (List.mem_append.mp he).elim (ok0 e) (ok e), by rw [List.length_append]; show es.length + 7 ≤ _; omega, by rw [List.length_append]; omega⟩
  clear dr em al0 ok0 el eg sA
  rintro σ G0 ⟨A0, m, xs1, es, rfl, sA, dr, em, al0, ok0, el, eg⟩
  walk_at "go"
  refine i_cut (fun σ G => ∃ (A : Hp) (m : Addr) (xs1 : List V) (es : List PyData), σ = [some (.ref d.a), some (.ref b), some (.ref m), none] ∧ Same H0 A ∧ Dr K d A G ∧ A m = some (.lst xs1) ∧ AtAll A xs1 es ∧ (∀ e ∈ es, SigE e) ∧ es.length ≤ 27 ∧ 2 ≤ es.length) ?_ ?_
  · walk_at "go"
    refine i_new (by show 2 ≤ 100000; omega) fun p1 np1 => ?_
    obtain ⟨A1, s1, e1, d1⟩ := dr.step (HO.tup [(S [113]), V.non]) np1
    generalize upd G0 p1 (HO.tup [(S [113]), V.non]) = G1 at *
    have h1 : At A1 (.ref p1) (.tuple [(dS [113]), PyData.none]) := .tup e1 (by decide : 2 ≤ 10000) (.cons (.str _ (by decide)) (.cons .non .nil))
    walk_at "go"
    refine i_new (by show 2 ≤ 100000; omega) fun p2 np2 => ?_
    obtain ⟨A2, s2, e2, d2⟩ := d1.step (HO.tup [(S [113]), (V.int 7)]) np2
    generalize upd G1 p2 (HO.tup [(S [113]), (V.int 7)]) = G2 at *
    have h2 : At A2 (.ref p2) (.tuple [(dS [113]), (.int 7)]) := .tup e2 (by decide : 2 ≤ 10000) (.cons (.str _ (by decide)) (.cons (.int _) .nil))
    walk_at "go"
    refine i_new (by show 2 ≤ 100000; omega) fun p3 np3 => ?_
    obtain ⟨A3, s3, e3, d3⟩ := d2.step (HO.tup [(S [119]), (S [46])]) np3
    generalize upd G2 p3 (HO.tup [(S [119]), (S [46])]) = G3 at *
    have h3 : At A3 (.ref p3) (.tuple [(dS [119]), (dS [46])]) := .tup e3 (by decide : 2 ≤ 10000) (.cons (.str _ (by decide)) (.cons (.str _ (by decide)) .nil))
    walk_at "go"
    refine i_new (by show 2 ≤ 100000; omega) fun p4 np4 => ?_
    obtain ⟨A4, s4, e4, d4⟩ := d3.step (HO.tup [(S [113]), (V.ref p3)]) np4
    generalize upd G3 p4 (HO.tup [(S [113]), (V.ref p3)]) = G4 at *
    have h4 : At A4 (.ref p4) (.tuple [(dS [113]), (.tuple [(dS [119]), (dS [46])])]) := .tup e4 (by decide : 2 ≤ 10000) (.cons (.str _ (by decide)) (.cons (h3.same s4) .nil))
    walk_at "go"
    refine i_new (by show 1 ≤ 100000; omega) fun p5 np5 => ?_
    obtain ⟨A5, s5, e5, d5⟩ := d4.step (HO.lst [(S [119])]) np5
    generalize upd G4 p5 (HO.lst [(S [119])]) = G5 at *
    have h5 : At A5 (.ref p5) (.list [(dS [119])]) := .lst e5 (by decide : 1 ≤ 10000) (.cons (.str _ (by decide)) .nil)
    walk_at "go"
    refine i_new (by show 2 ≤ 100000; omega) fun p6 np6 => ?_
    obtain ⟨A6, s6, e6, d6⟩ := d5.step (HO.lst [(S [113]), (V.ref p5)]) np6
    generalize upd G5 p6 (HO.lst [(S [113]), (V.ref p5)]) = G6 at *
    have h6 : At A6 (.ref p6) (.list [(dS [113]), (.list [(dS [119])])]) := .lst e6 (by decide : 2 ≤ 10000) (.cons (.str _ (by decide)) (.cons (h5.same s6) .nil))
    walk_at "go"
    refine i_new (by show 2 ≤ 100000; omega) fun p7 np7 => ?_
    obtain ⟨A7, s7, e7, d7⟩ := d6.step (HO.tup [(S [32]), (S [119])]) np7
    generalize upd G6 p7 (HO.tup [(S [32]), (S [119])]) = G7 at *
    have h7 : At A7 (.ref p7) (.tuple [(dS [32]), (dS [119])]) := .tup e7 (by decide : 2 ≤ 10000) (.cons (.str _ (by decide)) (.cons (.str _ (by decide)) .nil))
    walk_at "go"
    refine i_new (by show 2 ≤ 100000; omega) fun p8 np8 => ?_
    obtain ⟨A8, s8, e8, d8⟩ := d7.step (HO.tup [(S [45]), (S [46])]) np8
    generalize upd G7 p8 (HO.tup [(S [45]), (S [46])]) = G8 at *
    have h8 : At A8 (.ref p8) (.tuple [(dS [45]), (dS [46])]) := .tup e8 (by decide : 2 ≤ 10000) (.cons (.str _ (by decide)) (.cons (.str _ (by decide)) .nil))
    walk_at "go"
    refine i_new (by show 2 ≤ 100000; omega) fun p9 np9 => ?_
    obtain ⟨A9, s9, e9, d9⟩ := d8.step (HO.tup [(S [113]), (S [87])]) np9
    generalize upd G8 p9 (HO.tup [(S [113]), (S [87])]) = G9 at *
    have h9 : At A9 (.ref p9) (.tuple [(dS [113]), (dS [87])]) := .tup e9 (by decide : 2 ≤ 10000) (.cons (.str _ (by decide)) (.cons (.str _ (by decide)) .nil))
    walk_at "go"
    refine i_dnewK fun p10 np10 => ?_
    obtain ⟨A10, s10, e10, d10⟩ := d9.step (HO.dK []) np10
    generalize upd G9 p10 (HO.dK []) = G10 at *
    have h10 : At A10 (.ref p10) (.dict []) := .dct e10
    walk_at "go"
    refine i_new (by show 8 ≤ 100000; omega) fun p11 np11 => ?_
    obtain ⟨A11, s11, e11, d11⟩ := d10.step (HO.lst [(V.ref p1), (V.ref p2), (V.ref p4), (V.ref p6), (V.ref p7), (V.ref p8), (V.ref p9), (V.ref p10)]) np11
    generalize upd G10 p11 (HO.lst [(V.ref p1), (V.ref p2), (V.ref p4), (V.ref p6), (V.ref p7), (V.ref p8), (V.ref p9), (V.ref p10)]) = G11 at *
    have h11 : At A11 (.ref p11) (.list [(.tuple [(dS [113]), PyData.none]), (.tuple [(dS [113]), (.int 7)]), (.tuple [(dS [113]), (.tuple [(dS [119]), (dS [46])])]), (.list [(dS [113]), (.list [(dS [119])])]), (.tuple [(dS [32]), (dS [119])]), (.tuple [(dS [45]), (dS [46])]), (.tuple [(dS [113]), (dS [87])]), (.dict [])]) := .lst e11 (by decide : 8 ≤ 10000) (.cons ((((((((((h1.same s2).same s3).same s4).same s5).same s6).same s7).same s8).same s9).same s10).same s11) (.cons (((((((((h2.same s3).same s4).same s5).same s6).same s7).same s8).same s9).same s10).same s11) (.cons (((((((h4.same s5).same s6).same s7).same s8).same s9).same s10).same s11) (.cons (((((h6.same s7).same s8).same s9).same s10).same s11) (.cons ((((h7.same s8).same s9).same s10).same s11) (.cons (((h8.same s9).same s10).same s11) (.cons ((h9.same s10).same s11) (.cons (h10.same s11) .nil))))))))
    walk_at "go"
    have al : AtAll A11 _ [(.tuple [(dS [113]), PyData.none]), (.tuple [(dS [113]), (.int 7)]), (.tuple [(dS [113]), (.tuple [(dS [119]), (dS [46])])]), (.list [(dS [113]), (.list [(dS [119])])]), (.tuple [(dS [32]), (dS [119])]), (.tuple [(dS [45]), (dS [46])]), (.tuple [(dS [113]), (dS [87])]), (.dict [])] := (.cons ((((((((((h1.same s2).same s3).same s4).same s5).same s6).same s7).same s8).same s9).same s10).same s11) (.cons (((((((((h2.same s3).same s4).same s5).same s6).same s7).same s8).same s9).same s10).same s11) (.cons (((((((h4.same s5).same s6).same s7).same s8).same s9).same s10).same s11) (.cons (((((h6.same s7).same s8).same s9).same s10).same s11) (.cons ((((h7.same s8).same s9).same s10).same s11) (.cons (((h8.same s9).same s10).same s11) (.cons ((h9.same s10).same s11) (.cons (h10.same s11) .nil))))))))
    have ok : ∀ e ∈ [(.tuple [(dS [113]), PyData.none]), (.tuple [(dS [113]), (.int 7)]), (.tuple [(dS [113]), (.tuple [(dS [119]), (dS [46])])]), (.list [(dS [113]), (.list [(dS [119])])]), (.tuple [(dS [32]), (dS [119])]), (.tuple [(dS [45]), (dS [46])]), (.tuple [(dS [113]), (dS [87])]), (.dict [])], SigE e := sigs_of_b (by decide +kernel)
    refine i_catL (d11.old (((((((((((s1.trans s2).trans s3).trans s4).trans s5).trans s6).trans s7).trans s8).trans s9).trans s10).trans s11) _ _ em)) (d11.old e11) (by rw [AtAll.len al0, AtAll.len al]; show es.length + 8 ≤ 100000; omega) fun pN nN => ?_
    walk_at "go"
    have sN := same_upd (o := .lst (xs1 ++ [(V.ref p1), (V.ref p2), (V.ref p4), (V.ref p6), (V.ref p7), (V.ref p8), (V.ref p9), (V.ref p10)])) (d11.free nN)
    exact ⟨_, pN, _, _, rfl, ((sA.trans ((((((((((s1.trans s2).trans s3).trans s4).trans s5).trans s6).trans s7).trans s8).trans s9).trans s10).trans s11)).trans sN), d11.new nN, upd_same, ((al0.same ((((((((((s1.trans s2).trans s3).trans s4).trans s5).trans s6).trans s7).trans s8).trans s9).trans s10).trans s11)).app al).same sN, fun e he => (List.mem_append.mp he).elim (ok0 e) (ok e), by rw [List.length_append]; show es.length + 8 ≤ _; omega, by rw [List.length_append]; omega⟩
  clear dr em al0 ok0 el eg sA
  rintro σ G0 ⟨A0, m, xs1, es, rfl, sA, dr, em, al0, ok0, el, eg⟩
  walk_at "go"
  refine i_cut (fun σ G => ∃ (A : Hp) (m : Addr) (xs1 : List V) (es : List PyData), σ = [some (.ref d.a), some (.ref b), some (.ref m), none] ∧ Same H0 A ∧ Dr K d A G ∧ A m = some (.lst xs1) ∧ AtAll A xs1 es ∧ (∀ e ∈ es, SigE e) ∧ es.length ≤ 31 ∧ 2 ≤ es.length) ?_ ?_
  · walk_at "go"
    refine i_mul_strI (l := [119]) (k := 12) (by decide) ⟨by decide, by decide⟩ ?_
    walk_at "go"
    refine i_new (by show 2 ≤ 100000; omega) fun p1 np1 => ?_
    obtain ⟨A1, s1, e1, d1⟩ := dr.step (HO.tup [(S [113]), (S (List.replicate (12 : Int).toNat [119]).flatten)]) np1
    generalize upd G0 p1 (HO.tup [(S [113]), (S (List.replicate (12 : Int).toNat [119]).flatten)]) = G1 at *
    have h1 : At A1 (.ref p1) (.tuple [(dS [113]), (dS (List.replicate (12 : Int).toNat [119]).flatten)]) := .tup e1 (by decide : 2 ≤ 10000) (.cons (.str _ (by decide)) (.cons (.str _ (by decide)) .nil))
    walk_at "go"
    refine i_new (by show 2 ≤ 100000; omega) fun p2 np2 => ?_
    obtain ⟨A2, s2, e2, d2⟩ := d1.step (HO.lst [(S [122]), (S [46])]) np2
    generalize upd G1 p2 (HO.lst [(S [122]), (S [46])]) = G2 at *
    have h2 : At A2 (.ref p2) (.list [(dS [122]), (dS [46])]) := .lst e2 (by decide : 2 ≤ 10000) (.cons (.str _ (by decide)) (.cons (.str _ (by decide)) .nil))
    walk_at "go"
    refine i_new (by show 2 ≤ 100000; omega) fun p3 np3 => ?_
    obtain ⟨A3, s3, e3, d3⟩ := d2.step (HO.lst [(S [97]), (S [103, 114, 119, 46])]) np3
    generalize upd G2 p3 (HO.lst [(S [97]), (S [103, 114, 119, 46])]) = G3 at *
    have h3 : At A3 (.ref p3) (.list [(dS [97]), (dS [103, 114, 119, 46])]) := .lst e3 (by decide : 2 ≤ 10000) (.cons (.str _ (by decide)) (.cons (.str _ (by decide)) .nil))
    walk_at "go"
    refine i_new (by show 2 ≤ 100000; omega) fun p4 np4 => ?_
    obtain ⟨A4, s4, e4, d4⟩ := d3.step (HO.tup [(S [109]), (S [119])]) np4
    generalize upd G3 p4 (HO.tup [(S [109]), (S [119])]) = G4 at *
    have h4 : At A4 (.ref p4) (.tuple [(dS [109]), (dS [119])]) := .tup e4 (by decide : 2 ≤ 10000) (.cons (.str _ (by decide)) (.cons (.str _ (by decide)) .nil))
    walk_at "go"
    refine i_new (by show 4 ≤ 100000; omega) fun p5 np5 => ?_
    obtain ⟨A5, s5, e5, d5⟩ := d4.step (HO.lst [(V.ref p1), (V.ref p2), (V.ref p3), (V.ref p4)]) np5
    generalize upd G4 p5 (HO.lst [(V.ref p1), (V.ref p2), (V.ref p3), (V.ref p4)]) = G5 at *
    have h5 : At A5 (.ref p5) (.list [(.tuple [(dS [113]), (dS (List.replicate (12 : Int).toNat [119]).flatten)]), (.list [(dS [122]), (dS [46])]), (.list [(dS [97]), (dS [103, 114, 119, 46])]), (.tuple [(dS [109]), (dS [119])])]) := .lst e5 (by decide : 4 ≤ 10000) (.cons ((((h1.same s2).same s3).same s4).same s5) (.cons (((h2.same s3).same s4).same s5) (.cons ((h3.same s4).same s5) (.cons (h4.same s5) .nil))))
    walk_at "go"
    have al : AtAll A5 _ [(.tuple [(dS [113]), (dS (List.replicate (12 : Int).toNat [119]).flatten)]), (.list [(dS [122]), (dS [46])]), (.list [(dS [97]), (dS [103, 114, 119, 46])]), (.tuple [(dS [109]), (dS [119])])] := (.cons ((((h1.same s2).same s3).same s4).same s5) (.cons (((h2.same s3).same s4).same s5) (.cons ((h3.same s4).same s5) (.cons (h4.same s5) .nil))))
    have ok : ∀ e ∈ [(.tuple [(dS [113]), (dS (List.replicate (12 : Int).toNat [119]).flatten)]), (.list [(dS [122]), (dS [46])]), (.list [(dS [97]), (dS [103, 114, 119, 46])]), (.tuple [(dS [109]), (dS [119])])], SigE e := sigs_of_b (by decide +kernel)
    refine i_catL (d5.old (((((s1.trans s2).trans s3).trans s4).trans s5) _ _ em)) (d5.old e5) (by rw [AtAll.len al0, AtAll.len al]; show es.length + 4 ≤ 100000; omega) fun pN nN => ?_
    walk_at "go"
    have sN := same_upd (o := .lst (xs1 ++ [(V.ref p1), (V.ref p2), (V.ref p3), (V.ref p4)])) (d5.free nN)
    exact ⟨_, pN, _, _, rfl, ((sA.trans ((((s1.trans s2).trans s3).trans s4).trans s5)).trans sN), d5.new nN, upd_same, ((al0.same ((((s1.trans s2).trans s3).trans s4).trans s5)).app al).same sN, fun e he => (List.mem_append.mp he).elim (ok0 e) (ok e), by rw [List.length_append]; show es.length + 4 ≤ _; omega, by rw [List.length_append]; omega⟩
  clear dr em al0 ok0 el eg sA
  rintro σ G0 ⟨A0, m, xs1, es, rfl, sA, dr, em, al0, ok0, el, eg⟩
  have lx := AtAll.len al0
  have lp := pr.len
  walk_at "go"
  refine i_len_lst (.inl (.inl (dr.old em))) ?_
  walk_at "go"
  refine ⟨_, d, _, rfl, rfl, dr, by omega, fun n G1 dr1 bn => ?_⟩
  have b0 := bn.1
  walk_at "go"
  refine i_len_lst (.inl (.inl (dr1.old em))) ?_
  walk_at "go"
  refine i_dec (fun c1 => ?_) (fun c1 => ?_)
  · have hn : n.toNat < xs1.length := by omega
    obtain ⟨e, he, ae⟩ := al0.get (List.getElem?_eq_getElem hn)
    walk_at "go"
    refine i_ix_lst (.inl (.inl (dr1.old em))) (atI_int b0 (List.getElem?_eq_getElem hn)) ?_
    exact q A0 G1 _ e sA dr1 ae (ok0 e (List.mem_of_getElem? he))
  have hb1 := sA _ _ hb
  have sg2 : ∀ c ∈ AZ, SigE (.tuple [dS [c], dS [103, 46]]) := fun c hc => ⟨.inl rfl, by simp [PyData.depth, PyData.depthAll], (Rp.tuple (m := 12) fun e he => by
    have az : ∀ c ∈ AZ, c < 16 ^ 8 := by decide
    rcases List.mem_cons.mp he with rfl | he
    · exact Rp.str (by simp) fun x hx => by rw [List.mem_singleton.mp hx]; exact az _ hc
    · rw [List.mem_singleton.mp he]
      exact Rp.str (by decide) (by decide)).mono (by show (12 + 1) * 2 ≤ 60; decide)⟩
  walk_at "go"
  refine i_truL (dr1.old hb1) ?_
  by_cases hn : xs = []
  · subst hn
    show (if (false : Bool) = true then _ else _)
    walk_at "go"
    refine i_new (by show 2 ≤ 100000; omega) fun p1 np1 => ?_
    have s3 := same_upd (o := .tup [S [101], S [114]]) (dr1.free np1)
    exact q _ _ _ _ (sA.trans s3) (dr1.new np1) (.tup upd_same (by decide : 2 ≤ 10000) (.cons (.str _ (by decide)) (.cons (.str _ (by decide)) .nil))) (sig_of_b (by decide +kernel))
  · have pos := List.length_pos_iff.mpr hn
    have e1 : (!xs.isEmpty) = true := by
      cases xs with
      | nil => exact absurd rfl hn
      | cons x r => rfl
    rw [e1]
    walk_at "go"
    refine i_len_lst (.inl (.inl (dr1.old hb1))) ?_
    walk_at "go"
    have gl := g.ln
    refine ⟨_, d, _, rfl, rfl, dr1, by omega, fun n2 G2 dr2 bn2 => ?_⟩
    have c0 := bn2.1
    have c1 : n2.toNat < xs.length := by have := bn2.2.1; have := bn2.2.2; omega
    have hx := List.getElem?_eq_getElem c1
    obtain ⟨p, c, hp, ec, hc⟩ := prs_get pr hx
    refine i_ix_lst (v := .ref c) (.inl (.inl (dr2.old hb1))) (atI_int c0 (hx.trans (congrArg some ec))) ?_
    walk_at "go"
    refine i_ix_tup (xs := [S [p.1], S p.2]) (.inl (.inl (dr2.old (sA _ _ hc)))) (atI_int (z := 0) (by decide) rfl) ?_
    walk_at "go"
    refine i_new (by show 2 ≤ 100000; omega) fun p1 np1 => ?_
    have s3 := same_upd (o := .tup [S [p.1], S [103, 46]]) (dr2.free np1)
    exact q _ _ _ _ (sA.trans s3) (dr2.new np1) (.tup upd_same (by decide : 2 ≤ 10000) (.cons (.str _ (by decide : 1 ≤ 10000)) (.cons (.str _ (by decide)) .nil))) (sg2 _ (g.az p (List.mem_of_getElem? hp)))
end
end K75
namespace K75
open PySem PySem.Spec PyProof.Rows L2 Fg
local macro_rules | `(tactic| walk_at "sq") => `(tactic| first
  | assumption
  | exact .inl (.inl (by assumption))
  | exact .inl (.inl upd_same))
local macro_rules | `(tactic| walk_at "st") => `(tactic| first
  | assumption
  | exact .inl (.inl (by assumption))
  | exact .inl (.inl upd_same))
local macro_rules | `(tactic| walk_at "o") => `(tactic| first
  | omega
  | assumption
  | (simp only [List.length_append, List.length_take, List.length_drop, List.length_cons, List.length_nil, List.length_singleton, List.length_map, List.length_range, Int.toNat_natCast] ; omega))
local macro_rules | `(tactic| walk_at "s") => `(tactic| first
  | (with_reducible refine i_seq ?_)
  | (with_reducible refine i_asg ?_)
  | ((with_reducible refine' i_var ?h1 ?_); (case h1 => rfl))
  | (with_reducible refine i_c ?_)
  | ((with_reducible refine' i_gname' ?h1 ?_); (case h1 => (simp only [List.set_cons_zero, List.set_cons_succ]; rfl)))
  | (with_reducible refine i_op ?_)
  | (with_reducible refine i_ifS ?_)
  | (with_reducible refine i_for ?_)
  | (with_reducible refine i_test ?_)
  | (with_reducible refine i_B ?_)
  | (with_reducible refine i_exbl ?_)
  | (with_reducible refine i_exint ?_)
  | (with_reducible refine i_cb ?_)
  | (with_reducible refine i_nil ?_)
  | (with_reducible refine i_cons ?_)
  | (with_reducible refine i_ret ?_)
  | (with_reducible refine i_sl ?_)
  | (with_reducible refine i_nopart ?_)
  | (with_reducible refine i_part ?_)
  | (with_reducible refine i_add_int ?_)
  | (with_reducible refine i_sub ?_)
  | (with_reducible refine i_lt ?_)
  | ((with_reducible refine' i_mod ?h1 ?_); (case h1 => walk_at "o"))
  | ((with_reducible refine' i_fdiv ?h1 ?_); (case h1 => (refine cdiv_small ?_ ?_ <;> walk_at "o")))
  | ((with_reducible refine' i_sl_to ?h1 ?h2 ?_); (case h1 => walk_at "o"); (case h2 => walk_at "o"))
  | ((with_reducible refine' i_sl_from ?h1 ?h2 ?_); (case h1 => walk_at "o"); (case h2 => walk_at "o"))
  | ((with_reducible refine' i_add_str ?h1 ?_); (case h1 => walk_at "o"))
  | ((with_reducible refine' i_mul_int ?h1 ?_); (case h1 => first | (refine mul_small ?_ ?_ <;> walk_at "o") | (refine mul_smallR ?_ ?_ <;> walk_at "o")))
  | (with_reducible refine i_le ?_)
  | (with_reducible refine i_gt ?_)
  | (with_reducible refine i_ge ?_)
  | (with_reducible refine i_eq_int ?_)
  | (with_reducible refine i_eq_str ?_)
  | (with_reducible refine i_ne_int ?_)
  | (with_reducible refine i_ne_str ?_)
  | (with_reducible refine i_eq_bl ?_)
  | (with_reducible refine i_ne_bl ?_)
  | (with_reducible refine i_in_sg ?_)
  | (with_reducible refine i_notIn_sg ?_)
  | (with_reducible refine i_call ?_)
  | (with_reducible refine i_callS ?_)
  | (with_reducible refine i_sp1 ?_)
  | (with_reducible refine i_sp2 ?_)
  | (with_reducible refine i_sp3 ?_)
  | (with_reducible refine i_sp4 ?_)
  | (with_reducible refine i_sp1' ?_)
  | (with_reducible refine i_sp2' ?_)
  | (with_reducible refine i_sp3' ?_)
  | ((with_reducible refine' i_ix_lst ?h1 ?h2 ?_); (case h1 => walk_at "sq"); (case h2 => first | exact atI_nat rfl | rfl))
  | ((with_reducible refine' i_ix_tup ?h1 ?h2 ?_); (case h1 => walk_at "st"); (case h2 => first | exact atI_nat rfl | rfl))
  | (with_reducible refine i_gsub ?_)
  | (with_reducible refine i_par ?_)
  | (with_reducible refine i_lstRg1 ?_)
  | (with_reducible refine i_app ?_)
  | (with_reducible refine i_par2 ?_)
  | ((with_reducible refine' i_aug ?h1 ?_); (case h1 => rfl))
  | (with_reducible refine i_ipI ?_)
  | ((with_reducible refine' i_gtup2 ?h1 ?_); (case h1 => walk_at "st"))
  | (with_reducible refine i_int_bl ?_)
  | (with_reducible refine i_raise ?_)
  | (with_reducible refine i_mkE ?_)
  | (with_reducible refine i_ex1 ?_)
  | (with_reducible refine i_and ?_)
  | (with_reducible refine i_or ?_)
  | (with_reducible refine i_not ?_)
  | (with_reducible refine i_tt ?_)
  | (with_reducible refine i_ff ?_)
  | (with_reducible refine i_nott ?_)
  | (with_reducible refine i_notf ?_)
  | (with_reducible refine i_andV ?_)
  | (with_reducible refine i_orV ?_)
  | (with_reducible refine i_notV ?_)
  | (with_reducible refine i_ifE ?_)
  | (with_reducible refine i_tup ?_)
  | (with_reducible refine i_lst ?_)
  | (with_reducible refine i_un ?_)
  | (with_reducible refine i_neg ?_)
  | (with_reducible refine i_chain ?_)
  | (with_reducible refine i_next ?_)
  | (with_reducible refine i_retN ?_)
  | (with_reducible refine i_drop ?_)
  | (with_reducible refine i_int_int ?_)
  | (with_reducible refine i_abs ?_)
  | (with_reducible refine i_m1c ?_)
  | (with_reducible refine i_is_non ?_)
  | (with_reducible refine i_is_int ?_)
  | (with_reducible refine i_is_bl ?_)
  | (with_reducible refine i_isn_bl ?_)
  | (with_reducible refine i_is_str ?_)
  | (with_reducible refine i_is_ref ?_)
  | (with_reducible refine i_isn_non ?_)
  | (with_reducible refine i_isn_int ?_)
  | (with_reducible refine i_isn_str ?_)
  | (with_reducible refine i_isn_ref ?_)
  | (with_reducible refine i_len_str ?h1 ?_; (case h1 => walk_at "o"))
  | (with_reducible refine i_callD ?_)
  | (with_reducible refine i_spD2 ?_)
  | (with_reducible refine i_spM1 ?_)
  | (with_reducible refine i_spM2 ?_)
  | (with_reducible refine i_spM3 ?_)
  | (with_reducible refine i_spM4 ?_)
  | (with_reducible refine i_spM3d ?_)
  | (with_reducible refine i_tfld ?_)
  | (with_reducible refine i_sfld ?_)
  | (with_reducible refine i_meth ?_)
  | (with_reducible refine i_make ?_)
  | (with_reducible refine i_spl ?_)
  | (with_reducible refine i_mkE2 ?_)
  | (with_reducible refine i_ex2 ?_)
  | (with_reducible refine i_dget ?_)
  | (with_reducible refine i_tru ?_)
  | (with_reducible refine i_dput ?_)
  | (with_reducible refine i_dnotin ?_)
  | (with_reducible refine i_din ?_)
  | (with_reducible refine i_rev ?_)
  | (with_reducible refine i_isi_int_int ?_) | (with_reducible refine i_isi_int_bool ?_) | (with_reducible refine i_isi_int_str ?_) | (with_reducible refine i_isi_int_tuple ?_) | (with_reducible refine i_isi_int_list ?_)
  | (with_reducible refine i_isi_bl_int ?_) | (with_reducible refine i_isi_bl_bool ?_) | (with_reducible refine i_isi_bl_str ?_) | (with_reducible refine i_isi_bl_tuple ?_) | (with_reducible refine i_isi_bl_list ?_)
  | (with_reducible refine i_isi_str_int ?_) | (with_reducible refine i_isi_str_bool ?_) | (with_reducible refine i_isi_str_str ?_) | (with_reducible refine i_isi_str_tuple ?_) | (with_reducible refine i_isi_str_list ?_)
  | (with_reducible refine i_isi_non_int ?_) | (with_reducible refine i_isi_non_bool ?_) | (with_reducible refine i_isi_non_str ?_) | (with_reducible refine i_isi_non_tuple ?_) | (with_reducible refine i_isi_non_list ?_))
local macro_rules | `(tactic| walk_at "go") => `(tactic| (repeat' (walk_at "s")))
local macro_rules | `(tactic| walk_at "n") => `(tactic| simp only [wipe, List.map_cons, List.map_nil, List.set_cons_zero, List.set_cons_succ])
/-! ### odd things for the signals -/
structure OddE (e : PyData) : Prop where
  fl : flatL e
  dep : e.depth < 6
  rp : Rp 1000 e
theorem odd_list {es : List PyData} (h : ∀ e ∈ es, SigE e) (l : es.length ≤ 8) : OddE (.list es) := by
  refine ⟨.inr ⟨es, rfl, fun e he => (h e he).fl⟩, ?_, (Rp.list fun e he => (h e he).rp).mono (by omega)⟩
  have := dep_all fun e he => (h e he).dep
  show PyData.depthAll es + 1 < 6
  omega
theorem odd_one {e : PyData} (h : SigE e) : OddE e := ⟨.inl h.fl, by have := h.dep; omega, h.rp.mono (by decide)⟩
theorem cutV_fr {xs : List V} (k : Nat) : cutV xs (some (k : Int)) none = xs.drop k := by
  unfold cutV
  rw [HT.sIx_nat, HT.sIx_none]
  rcases Nat.le_total k xs.length with hk | hk
  · rw [Nat.min_eq_left hk, List.take_of_length_le (by rw [List.length_drop]; omega)]
  · rw [Nat.min_eq_right hk, Nat.sub_self, List.take_zero, List.drop_of_length_le hk]
theorem sigs_app {ds es : List PyData} (h : ∀ e ∈ ds, SigE e) (k : ∀ e ∈ es, SigE e) : ∀ e ∈ ds ++ es, SigE e := fun e he => (List.mem_append.mp he).elim (h e) (k e)
theorem sigs_take {ds : List PyData} (h : ∀ e ∈ ds, SigE e) (n : Nat) : ∀ e ∈ ds.take n, SigE e := fun e he => h e (List.mem_of_mem_take he)
theorem sigs_drop {ds : List PyData} (h : ∀ e ∈ ds, SigE e) (n : Nat) : ∀ e ∈ ds.drop n, SigE e := fun e he => h e (List.mem_of_mem_drop he)
theorem sig_pair {b : Bool} {p : Nat × List Nat} {ps : Tb} (g : GoodT ps) (h : p ∈ ps) : SigE (sgL b p) := by
  obtain ⟨h1, h2, h3⟩ := sgL_sm b (g.az p h) (g.lw p h) (firstBad_sg (g.ok p h))
  exact ⟨.inl h3, by omega, h2.mono (by decide)⟩
theorem sig_made {c : Nat} (hc : c ∈ AZ) : SigE (.tuple [dS [c], dS [103, 46]]) := by
  have az : ∀ c ∈ AZ, c < 16 ^ 8 := by decide
  refine ⟨.inl rfl, by simp [PyData.depth, PyData.depthAll], (Rp.tuple (m := 12) fun e he => ?_).mono (by show (12 + 1) * 2 ≤ 60; decide)⟩
  rcases List.mem_cons.mp he with rfl | he
  · exact Rp.str (by simp) fun x hx => by rw [List.mem_singleton.mp hx]; exact az _ hc
  · rw [List.mem_singleton.mp he]
    exact Rp.str (by decide) (by decide)
section
variable {P : Program} {w : World} {K : PySem.W.Frag} {mg : Str → Option Value} {base : Heap} {C_GlimError C_BadRow C_BadRound C_BadSignal C_BadMessage C_Signals C_dt_Signals___init__ : Addr}
def p_L_odd_signals (K : PySem.W.Frag) : P2 := fun x y H Q _ => ∃ H0 d b xs ps, x = .ref d.a ∧ y = .ref b ∧ Dr K d H0 H ∧ H0 b = some (.lst xs) ∧ Prs H0 xs ps ∧ GoodT ps ∧
  ∀ A H' v e, Same H0 A → Dr K d A H' → At A v e → OddE e → Q v H'
theorem ok_L_odd_signals (T : Txt K mg C_GlimError C_BadRow C_BadRound C_BadSignal C_BadMessage C_Signals C_dt_Signals___init__) : OK P w K mg base CX0 4 "_law_odd_signals" ["_law_draw_here", "_law_pairs"] (sp2  (p_L_odd_signals K)) := by
  refine OK.mk (k := 3) T.d_L_odd_signals sc_L_odd_signals len2 fun f cdv A outer s H vs Q E hr h => ?_
  obtain ⟨x, y, rfl, h⟩ := h
  refine ⟨_, (pss_cons (ps_set (i := 2) sc_L_odd_signals.nd rfl (Or.inl rfl) (pe_f (ok_L_pick (K := K) T) (hr.mono (by decide)) pass0 (pa_cons (pv 0) (pa_cons pe_int pa_nil)))) (pss_cons (ps_if (pt_cmpR (opEq K hr.units) (pv 2) pe_int (nomark _)) (pss_one (ps_ret (pe_ix (ixK K) (pe_lst (pa_cons pe_non (pa_cons pe_int (pa_cons (pe_S [113, 119]) (pa_cons pe_dnewK (pa_cons pe_bl pa_nil)))))) (pe_f (ok_L_pick (K := K) T) (hr.mono (by decide)) pass0 (pa_cons (pv 0) (pa_cons pe_int pa_nil))) (fun _ _ => rfl)))) pss_nil) (pss_cons (ps_setLc (i := 3) (own := [("_law_pair", 6)]) (g := gName 6) (tt := tYes) (by rfl) sc_L_odd_signals.nd rfl rfl (sw_true rfl rfl rfl (by decide +kernel)) (piAny K (pv 1)) (blkOk_by (own := [("_law_pair", 6)]) (N := ["_law_draw_here", "_law_pairs", "_law_kind", "_law_told", "_law_place", "_law_turn", "_law_pair"]) (sc := (defScope s_L_odd_signals)) (by decide +kernel)) (fun _ _ _ _ _ => (pg_name (i := 6) sc_L_odd_signals.nd rfl (Or.inl rfl))) (fun _ _ _ _ _ => pts_nil) (fun _ _ _ _ _ => (pe_lst (pa_cons (pe_ix (ixK K) (pv 6) pe_int (fun _ _ => rfl)) (pa_cons (pe_ix (ixK K) (pv 6) pe_int (fun _ _ => rfl)) pa_nil))))) (Evl.pss_cut (ps_if (pw_and (pt_cmpR op_ltP (pv 2) pe_int (nomark _)) (pw_and1 (ptTruth K (pv 1) (fun _ => rfl)))).pt (pss_cons (ps_set (i := 4) sc_L_odd_signals.nd rfl (Or.inl rfl) (pe_f (ok_L_pick (K := K) T) (hr.mono (by decide)) pass0 (pa_cons (pv 0) (pa_cons (pe_op (opAdd K) (pe_callB (cLen K) (by rfl) T.b_len (by decide +kernel) (pa_cons (pv 3) pa_nil)) pe_int) pa_nil)))) (pss_one (ps_ret (pe_op (opAdd K) (pe_op (opAdd K) (pe_slice (slK K) (pv 3) po_none (po_some (pv 4))) (pe_lst (pa_cons (pe_tup (pa_cons (pe_ix (ixK K) (pe_ix (ixK K) (pv 1) (pe_f (ok_L_pick (K := K) T) (hr.mono (by decide)) pass0 (pa_cons (pv 0) (pa_cons (pe_callB (cLen K) (by rfl) T.b_len (by decide +kernel) (pa_cons (pv 1) pa_nil)) pa_nil))) (fun _ _ => rfl)) pe_int (fun _ _ => rfl)) (pa_cons (pe_S [103, 46]) pa_nil))) pa_nil))) (pe_slice (slK K) (pv 3) (po_some (pv 4)) po_none))))) pss_nil) (pss_cons (ps_for PassesOwn.never rfl (pi_range1 rfl T.b_range (pa_cons (pe_op (opAdd K) pe_int (pe_f (ok_L_pick (K := K) T) (hr.mono (by decide)) pass0 (pa_cons (pv 0) (pa_cons pe_int pa_nil)))) pa_nil)) (pg_name (i := 5) sc_L_odd_signals.nd rfl (Or.inl rfl)) (pss_cons (ps_set (i := 4) sc_L_odd_signals.nd rfl (Or.inl rfl) (pe_f (ok_L_pick (K := K) T) (hr.mono (by decide)) pass0 (pa_cons (pv 0) (pa_cons (pe_op (opAdd K) (pe_callB (cLen K) (by rfl) T.b_len (by decide +kernel) (pa_cons (pv 3) pa_nil)) pe_int) pa_nil)))) (pss_one (ps_if (pt_cmpR op_ltP (pv 2) pe_int (nomark _)) (pss_one (ps_set (i := 3) sc_L_odd_signals.nd rfl (Or.inl rfl) (pe_op (opAdd K) (pe_op (opAdd K) (pe_slice (slK K) (pv 3) po_none (po_some (pv 4))) (pe_lst (pa_cons (pe_f (ok_L_odd_signal (K := K) T) (hr.mono (by decide)) pass0 (pa_cons (pv 0) (pa_cons (pv 1) pa_nil))) pa_nil))) (pe_slice (slK K) (pv 3) (po_some (pe_op (opAdd K) (pv 4) pe_int)) po_none)))) (pss_one (ps_set (i := 3) sc_L_odd_signals.nd rfl (Or.inl rfl) (pe_op (opAdd K) (pe_op (opAdd K) (pe_slice (slK K) (pv 3) po_none (po_some (pv 4))) (pe_lst (pa_cons (pe_f (ok_L_odd_signal (K := K) T) (hr.mono (by decide)) pass0 (pa_cons (pv 0) (pa_cons (pv 1) pa_nil))) pa_nil))) (pe_slice (slK K) (pv 3) (po_some (pv 4)) po_none)))))))) (pss_one (ps_ret (pv 3)))))))), ?_⟩
  show (_ : TS) { nx := fun _ H' => Q .non H', rt := Q } [some x, some y, none, none, none, none, none] H
  obtain ⟨H0, d, b, xs, ps, rfl, rfl, dr, hb, pr, g, q⟩ := h
  have lp := pr.len
  have gl := g.ln
  walk_at "go"
  refine ⟨_, d, 8, rfl, rfl, dr, by decide, fun kd G1 dr1 b1 => ?_⟩
  walk_at "go"
  refine i_dec (fun c0 => ?_) (fun c0 => ?_)
  · walk_at "go"
    refine i_dnewK fun p1 np1 => ?_
    obtain ⟨A2, s2, e2, d2⟩ := dr1.step (HO.dK []) np1
    generalize upd G1 p1 (HO.dK []) = G2 at *
    walk_at "go"
    refine i_new (by show 5 ≤ 100000; omega) fun p2 np2 => ?_
    obtain ⟨A3, s3, e3, d3⟩ := d2.step (HO.lst [.non, .int 7, S [113, 119], .ref p1, .bl true]) np2
    generalize upd G2 p2 (HO.lst [.non, .int 7, S [113, 119], .ref p1, .bl true]) = G3 at *
    walk_at "go"
    refine ⟨_, d, 5, rfl, rfl, d3, by decide, fun n G4 dr4 bn => ?_⟩
    obtain ⟨v, hv, hv'⟩ := pick_in (xs := [.non, .int 7, S [113, 119], .ref p1, .bl true]) bn (by show 2 ≤ 5; decide)
    have al : AtAll A3 [.non, .int 7, S [113, 119], .ref p1, .bl true] [.none, .int 7, dS [113, 119], .dict [], .bool true] := .cons .non (.cons (.int _) (.cons (.str _ (by decide)) (.cons (.dct (s3 _ _ e2)) (.cons (.bl _) .nil))))
    have ok : ∀ e ∈ [PyData.none, .int 7, dS [113, 119], .dict [], .bool true], SigE e := sigs_of_b (by decide +kernel)
    obtain ⟨e, he, ae⟩ := al.get hv'
    refine i_ix_lst (.inl (.inl (dr4.old e3))) hv ?_
    exact q A3 G4 v e (s2.trans s3) dr4 ae (odd_one (ok e (List.mem_of_getElem? he)))
  walk_at "go"
  have hx := dr1.old hb
  have pr1 : Prs G1 xs ps := AtAll.same pr dr1.1
  refine c_new (fun i => mkP true (ps.getD i (0, []))) (fun R k => by walk_at "go"; exact k) (.inl (.inl hx)) (by omega) (fun _ => rfl) (fun i x G2 hi s1 QV k => ?_) (fun m G2 l n1 s1 e1 ll hk => ?_)
  · obtain ⟨p, c, hp, rfl, hc⟩ := prs_get pr1 hi
    have hc1 := s1 _ _ hc
    show (_ : TE) [some (.ref d.a), some (.ref b), some (.int kd), none, none, none, some (.ref c)] G2 QV
    have ep : ps.getD i (0, []) = p := by rw [List.getD_eq_getElem?_getD, hp]; rfl
    rw [ep] at k
    walk_at "go"
    exact ⟨by show 2 ≤ sizeLine; decide, k⟩
  have dr2 := dr1.same s1
  have ne0 : ∀ {c : Addr}, G1 c = none → c ≠ d.a := fun h => dr1.ne h
  have mx := Dr.max dr2
  have sA : Same H0 (wo G2 d.a) := fun b' o e => by rw [wo_ne (ne_of_none e dr2.2.1)]; exact dr2.1 _ _ e
  have em : wo G2 d.a m = some (.lst l) := (wo_ne (ne0 n1)).trans e1
  have al : AtAll (wo G2 d.a) l (ps.map (sgL true)) := atAll_of (by rw [List.length_map]; omega) fun i v e hv he => by
    rw [List.getElem?_map] at he
    obtain ⟨p, hp, rfl⟩ := Option.map_eq_some_iff.mp he
    have hk' := (List.getElem?_eq_some_iff.mp hp).1
    obtain ⟨c, h1, h2, _, h4⟩ := hk i (by omega)
    rw [hv] at h1
    cases h1
    rw [List.getD_eq_getElem?_getD, hp] at h4
    exact mkP_at (b := true) ((wo_ne (ne0 h2)).trans h4) (g.lw p (List.mem_of_getElem? hp))
  have ok : ∀ e ∈ ps.map (sgL true), SigE e := fun e he => by
    obtain ⟨p, hp, rfl⟩ := List.mem_map.mp he
    exact sig_pair g hp
  have le : (ps.map (sgL true)).length ≤ 4 := by rw [List.length_map]; exact gl
  have dr3 := mx
  generalize wo G2 d.a = A0 at *
  generalize ps.map (sgL true) = es at *
  clear hk n1 e1 s1 dr1 dr2 ll mx hx pr1 ne0
  walk_at "go"
  refine i_cut (fun σ G => ∃ v, σ = [some (.ref d.a), some (.ref b), some (.int kd), some (.ref m), v, none, none] ∧ Dr K d A0 G) ?_ ?_
  · walk_at "go"
    refine i_dec (fun c1 => ?_) (fun c1 => ?_)
    · walk_at "go"
      refine i_truL (dr3.old (sA _ _ hb)) ?_
      by_cases hn : xs = []
      · subst hn
        show (if (false : Bool) = true then _ else _)
        walk_at "go"
        exact ⟨_, rfl, dr3⟩
      · have pos := List.length_pos_iff.mpr hn
        have e1 : (!xs.isEmpty) = true := by
          cases xs with
          | nil => exact absurd rfl hn
          | cons x r => rfl
        rw [e1]
        walk_at "go"
        refine i_len_lst (.inl (.inl (dr3.old em))) ?_
        walk_at "go"
        have lx := al.len
        refine ⟨_, d, _, rfl, rfl, dr3, by omega, fun n G3 dr4 bn => ?_⟩
        obtain ⟨k, rfl⟩ : ∃ k : Nat, n = (k : Int) := ⟨n.toNat, by have := bn.1; omega⟩
        have hk : k ≤ l.length := by have := bn.2.1; have := bn.2.2; omega
        walk_at "go"
        refine i_slL (.inl (.inl (dr4.old em))) fun l1 n1 => ?_
        rw [cutV_to]
        obtain ⟨A1, s1, el1, dr5⟩ := dr4.step (HO.lst (l.take k)) n1
        walk_at "go"
        have hb1 := s1 _ _ (sA _ _ hb)
        refine i_len_lst (.inl (.inl (dr5.old hb1))) ?_
        walk_at "go"
        refine ⟨_, d, _, rfl, rfl, dr5, by omega, fun n2 G4 dr6 bn2 => ?_⟩
        have c0 := bn2.1
        have c1 : n2.toNat < xs.length := by have := bn2.2.1; have := bn2.2.2; omega
        have hx := List.getElem?_eq_getElem c1
        obtain ⟨p, c, hp, ec, hc⟩ := prs_get pr hx
        refine i_ix_lst (v := .ref c) (.inl (.inl (dr6.old hb1))) (atI_int c0 (hx.trans (congrArg some ec))) ?_
        walk_at "go"
        refine i_ix_tup (xs := [S [p.1], S p.2]) (.inl (.inl (dr6.old (s1 _ _ (sA _ _ hc))))) (atI_int (z := 0) (by decide) rfl) ?_
        walk_at "go"
        refine i_new (by show 2 ≤ 100000; omega) fun p1 np1 => ?_
        obtain ⟨A2, s2, ep1, dr7⟩ := dr6.step (HO.tup [S [p.1], S [103, 46]]) np1
        have av : At A2 (.ref p1) (.tuple [dS [p.1], dS [103, 46]]) := .tup ep1 (by decide : 2 ≤ 10000) (.cons (.str _ (by decide : 1 ≤ 10000)) (.cons (.str _ (by decide)) .nil))
        have sg := sig_made (g.az p (List.mem_of_getElem? hp))
        walk_at "go"
        have al := al.same (s1.trans s2)
        have em2 := s2 _ _ (s1 _ _ em)
        have el2 := s2 _ _ el1
        have sA2 := sA.trans (s1.trans s2)
        generalize (V.ref p1) = v2 at *
        generalize PyData.tuple [dS [p.1], dS [103, 46]] = e2 at *
        clear dr dr3 dr4 dr5 dr6
        generalize l = xs1 at *
        refine i_new (by show 1 ≤ 100000; omega) fun q1 nq1 => ?_
        obtain ⟨B1, t1, f1, g1⟩ := dr7.step (HO.lst [v2]) nq1
        refine i_catL (g1.old (t1 _ _ el2)) (g1.old f1) (by rw [List.length_take]; show _ + 1 ≤ 100000; omega) fun q2 nq2 => ?_
        obtain ⟨B2, t2, f2, g2⟩ := g1.step (HO.lst (xs1.take k ++ [v2])) nq2
        walk_at "go"
        refine i_slL (.inl (.inl (g2.old (t2 _ _ (t1 _ _ em2))))) fun q3 nq3 => ?_
        rw [cutV_fr]
        obtain ⟨B3, t3, f3, g3⟩ := g2.step (HO.lst (xs1.drop k)) nq3
        refine i_catL (g3.old (t3 _ _ f2)) (g3.old f3) (by rw [List.length_append, List.length_take, List.length_drop]; show _ + 1 + _ ≤ 100000; omega) fun q4 nq4 => ?_
        obtain ⟨B4, t4, f4, g4⟩ := g3.step (HO.lst (xs1.take k ++ [v2] ++ xs1.drop k)) nq4
        have tt := (t1.trans t2).trans (t3.trans t4)
        have al4 := (((al.take k).app (.one av)).app (al.drop k)).same tt
        have ok4 := sigs_app (sigs_app (sigs_take ok k) (es := [e2]) (fun e he => by rw [List.mem_singleton.mp he]; exact sg)) (sigs_drop ok k)
        have ll4 : (es.take k ++ [e2] ++ es.drop k).length ≤ es.length + 1 := by rw [List.length_append, List.length_append, List.length_take, List.length_drop]; show _ + 1 + _ ≤ _; omega
        walk_at "go"
        exact q B4 _ _ _ (sA2.trans tt) g4 (At.mkLst f4 al4 (by omega)) (odd_list ok4 (by omega))
    · walk_at "go"
      exact ⟨_, rfl, dr3⟩
  rintro σ G ⟨v4, rfl, dr4⟩
  walk_at "go"
  refine i_forR ?_
  walk_at "go"
  refine ⟨_, d, 2, rfl, rfl, dr4, by decide, fun t G3 dr5 bt => ?_⟩
  have t0 := bt.1
  have t1 := bt.2.1 (by decide)
  walk_at "go"
  refine i_rngD (by omega) (by omega) (fun i σ' H' => ∃ (m : Addr) (xs1 : List V) (es : List PyData) (A : Hp) (v4 v5 : Option V), σ' = [some (.ref d.a), some (.ref b), some (.int kd), some (.ref m), v4, v5, none] ∧
    Same H0 A ∧ Dr K d A H' ∧ A m = some (.lst xs1) ∧ AtAll A xs1 es ∧ (∀ e ∈ es, SigE e) ∧ es.length ≤ 4 + i)
    ⟨m, l, es, A0, _, _, rfl, sA, dr5, em, al, ok, by omega⟩ ?_ ?_
  · clear dr dr3 dr4 dr5 sA em al ok le
    rintro i σ' H' hi ⟨m, xs1, es, A, v4, v5, rfl, sA, dr, em, al, ok, le⟩
    have lx := al.len
    walk_at "go"
    refine i_len_lst (.inl (.inl (dr.old em))) ?_
    walk_at "go"
    refine ⟨_, d, _, rfl, rfl, dr, by omega, fun n G3 dr4 bn => ?_⟩
    obtain ⟨k, rfl⟩ : ∃ k : Nat, n = (k : Int) := ⟨n.toNat, by have := bn.1; omega⟩
    have hk : k ≤ xs1.length := by have := bn.2.1; have := bn.2.2; omega
    have call : ∀ {A1 G : Hp} {R : VK} {E : XK}, Same A A1 → Dr K d A1 G → (∀ A2 G2 v e, Same A1 A2 → Dr K d A2 G2 → At A2 v e → SigE e → R v G2) → p_L_odd_signal K (.ref d.a) (.ref b) G R E := fun s1 d1 k1 =>
      ⟨_, d, b, xs, ps, rfl, rfl, d1, s1 _ _ (sA _ _ hb), AtAll.same pr (sA.trans s1), g, k1⟩
    walk_at "go"
    refine i_dec (fun c1 => ?_) (fun c1 => ?_)
    · walk_at "go"
      refine i_slL (.inl (.inl (dr4.old em))) fun l1 n1 => ?_
      rw [cutV_to]
      obtain ⟨A1, s1, el1, dr5⟩ := dr4.step (HO.lst (xs1.take k)) n1
      walk_at "go"
      refine call s1 dr5 fun A2 G4 v2 e2 s2 dr7 av sg => ?_
      walk_at "go"
      have al := al.same (s1.trans s2)
      have em2 := s2 _ _ (s1 _ _ em)
      have el2 := s2 _ _ el1
      have sA2 := sA.trans (s1.trans s2)
      refine i_new (by show 1 ≤ 100000; omega) fun q1 nq1 => ?_
      obtain ⟨B1, t1, f1, g1⟩ := dr7.step (HO.lst [v2]) nq1
      refine i_catL (g1.old (t1 _ _ el2)) (g1.old f1) (by rw [List.length_take]; show _ + 1 ≤ 100000; omega) fun q2 nq2 => ?_
      obtain ⟨B2, t2, f2, g2⟩ := g1.step (HO.lst (xs1.take k ++ [v2])) nq2
      walk_at "go"
      refine i_slL (.inl (.inl (g2.old (t2 _ _ (t1 _ _ em2))))) fun q3 nq3 => ?_
      rw [show ((k : Int) + 1) = ((k + 1 : Nat) : Int) by omega, cutV_fr]
      obtain ⟨B3, t3, f3, g3⟩ := g2.step (HO.lst (xs1.drop (k + 1))) nq3
      refine i_catL (g3.old (t3 _ _ f2)) (g3.old f3) (by rw [List.length_append, List.length_take, List.length_drop]; show _ + 1 + _ ≤ 100000; omega) fun q4 nq4 => ?_
      obtain ⟨B4, t4, f4, g4⟩ := g3.step (HO.lst (xs1.take k ++ [v2] ++ xs1.drop (k + 1))) nq4
      have tt := (t1.trans t2).trans (t3.trans t4)
      have al4 := (((al.take k).app (.one av)).app (al.drop (k + 1))).same tt
      have ok4 := sigs_app (sigs_app (sigs_take ok k) (es := [e2]) (fun e he => by rw [List.mem_singleton.mp he]; exact sg)) (sigs_drop ok (k + 1))
      have ll4 : (es.take k ++ [e2] ++ es.drop (k + 1)).length ≤ es.length + 1 := by rw [List.length_append, List.length_append, List.length_take, List.length_drop]; show _ + 1 + _ ≤ _; omega
      walk_at "go"
      exact ⟨q4, _, _, B4, _, _, rfl, sA2.trans tt, g4, f4, al4, ok4, by omega⟩
    · walk_at "go"
      refine i_slL (.inl (.inl (dr4.old em))) fun l1 n1 => ?_
      rw [cutV_to]
      obtain ⟨A1, s1, el1, dr5⟩ := dr4.step (HO.lst (xs1.take k)) n1
      walk_at "go"
      refine call s1 dr5 fun A2 G4 v2 e2 s2 dr7 av sg => ?_
      walk_at "go"
      have al := al.same (s1.trans s2)
      have em2 := s2 _ _ (s1 _ _ em)
      have el2 := s2 _ _ el1
      have sA2 := sA.trans (s1.trans s2)
      refine i_new (by show 1 ≤ 100000; omega) fun q1 nq1 => ?_
      obtain ⟨B1, t1, f1, g1⟩ := dr7.step (HO.lst [v2]) nq1
      refine i_catL (g1.old (t1 _ _ el2)) (g1.old f1) (by rw [List.length_take]; show _ + 1 ≤ 100000; omega) fun q2 nq2 => ?_
      obtain ⟨B2, t2, f2, g2⟩ := g1.step (HO.lst (xs1.take k ++ [v2])) nq2
      walk_at "go"
      refine i_slL (.inl (.inl (g2.old (t2 _ _ (t1 _ _ em2))))) fun q3 nq3 => ?_
      rw [cutV_fr]
      obtain ⟨B3, t3, f3, g3⟩ := g2.step (HO.lst (xs1.drop k)) nq3
      refine i_catL (g3.old (t3 _ _ f2)) (g3.old f3) (by rw [List.length_append, List.length_take, List.length_drop]; show _ + 1 + _ ≤ 100000; omega) fun q4 nq4 => ?_
      obtain ⟨B4, t4, f4, g4⟩ := g3.step (HO.lst (xs1.take k ++ [v2] ++ xs1.drop k)) nq4
      have tt := (t1.trans t2).trans (t3.trans t4)
      have al4 := (((al.take k).app (.one av)).app (al.drop k)).same tt
      have ok4 := sigs_app (sigs_app (sigs_take ok k) (es := [e2]) (fun e he => by rw [List.mem_singleton.mp he]; exact sg)) (sigs_drop ok k)
      have ll4 : (es.take k ++ [e2] ++ es.drop k).length ≤ es.length + 1 := by rw [List.length_append, List.length_append, List.length_take, List.length_drop]; show _ + 1 + _ ≤ _; omega
      walk_at "go"
      exact ⟨q4, _, _, B4, _, _, rfl, sA2.trans tt, g4, f4, al4, ok4, by omega⟩
  · rintro σ' H' ⟨m, xs1, es, A, v4, v5, rfl, sA, dr, em, al, ok, le⟩
    walk_at "go"
    exact q A H' _ _ sA dr (At.mkLst em al (by omega)) (odd_list ok (by omega))
end
end K75
namespace K75
open PySem PySem.Spec PyProof.Rows L2 Fg
local macro_rules | `(tactic| walk_at "sq") => `(tactic| first
  | assumption
  | exact .inl (.inl (by assumption))
  | exact .inl (.inl upd_same))
local macro_rules | `(tactic| walk_at "st") => `(tactic| first
  | assumption
  | exact .inl (.inl (by assumption))
  | exact .inl (.inl upd_same))
local macro_rules | `(tactic| walk_at "o") => `(tactic| first
  | omega
  | assumption
  | (simp only [List.length_append, List.length_take, List.length_drop, List.length_cons, List.length_nil, List.length_singleton, List.length_map, List.length_range, Int.toNat_natCast] ; omega))
local macro_rules | `(tactic| walk_at "s") => `(tactic| first
  | (with_reducible refine i_seq ?_)
  | (with_reducible refine i_asg ?_)
  | ((with_reducible refine' i_var ?h1 ?_); (case h1 => rfl))
  | (with_reducible refine i_c ?_)
  | ((with_reducible refine' i_gname' ?h1 ?_); (case h1 => (simp only [List.set_cons_zero, List.set_cons_succ]; rfl)))
  | (with_reducible refine i_op ?_)
  | (with_reducible refine i_ifS ?_)
  | (with_reducible refine i_for ?_)
  | (with_reducible refine i_test ?_)
  | (with_reducible refine i_B ?_)
  | (with_reducible refine i_exbl ?_)
  | (with_reducible refine i_exint ?_)
  | (with_reducible refine i_cb ?_)
  | (with_reducible refine i_nil ?_)
  | (with_reducible refine i_cons ?_)
  | (with_reducible refine i_ret ?_)
  | (with_reducible refine i_sl ?_)
  | (with_reducible refine i_nopart ?_)
  | (with_reducible refine i_part ?_)
  | (with_reducible refine i_add_int ?_)
  | (with_reducible refine i_sub ?_)
  | (with_reducible refine i_lt ?_)
  | ((with_reducible refine' i_mod ?h1 ?_); (case h1 => walk_at "o"))
  | ((with_reducible refine' i_fdiv ?h1 ?_); (case h1 => (refine cdiv_small ?_ ?_ <;> walk_at "o")))
  | ((with_reducible refine' i_sl_to ?h1 ?h2 ?_); (case h1 => walk_at "o"); (case h2 => walk_at "o"))
  | ((with_reducible refine' i_sl_from ?h1 ?h2 ?_); (case h1 => walk_at "o"); (case h2 => walk_at "o"))
  | ((with_reducible refine' i_add_str ?h1 ?_); (case h1 => walk_at "o"))
  | ((with_reducible refine' i_mul_int ?h1 ?_); (case h1 => first | (refine mul_small ?_ ?_ <;> walk_at "o") | (refine mul_smallR ?_ ?_ <;> walk_at "o")))
  | (with_reducible refine i_le ?_)
  | (with_reducible refine i_gt ?_)
  | (with_reducible refine i_ge ?_)
  | (with_reducible refine i_eq_int ?_)
  | (with_reducible refine i_eq_str ?_)
  | (with_reducible refine i_ne_int ?_)
  | (with_reducible refine i_ne_str ?_)
  | (with_reducible refine i_eq_bl ?_)
  | (with_reducible refine i_ne_bl ?_)
  | (with_reducible refine i_in_sg ?_)
  | (with_reducible refine i_notIn_sg ?_)
  | (with_reducible refine i_call ?_)
  | (with_reducible refine i_callS ?_)
  | (with_reducible refine i_sp1 ?_)
  | (with_reducible refine i_sp2 ?_)
  | (with_reducible refine i_sp3 ?_)
  | (with_reducible refine i_sp4 ?_)
  | (with_reducible refine i_sp1' ?_)
  | (with_reducible refine i_sp2' ?_)
  | (with_reducible refine i_sp3' ?_)
  | ((with_reducible refine' i_ix_lst ?h1 ?h2 ?_); (case h1 => walk_at "sq"); (case h2 => first | exact atI_nat rfl | rfl))
  | ((with_reducible refine' i_ix_tup ?h1 ?h2 ?_); (case h1 => walk_at "st"); (case h2 => first | exact atI_nat rfl | rfl))
  | (with_reducible refine i_gsub ?_)
  | (with_reducible refine i_par ?_)
  | (with_reducible refine i_lstRg1 ?_)
  | (with_reducible refine i_app ?_)
  | (with_reducible refine i_par2 ?_)
  | ((with_reducible refine' i_aug ?h1 ?_); (case h1 => rfl))
  | (with_reducible refine i_ipI ?_)
  | ((with_reducible refine' i_gtup2 ?h1 ?_); (case h1 => walk_at "st"))
  | (with_reducible refine i_int_bl ?_)
  | (with_reducible refine i_raise ?_)
  | (with_reducible refine i_mkE ?_)
  | (with_reducible refine i_ex1 ?_)
  | (with_reducible refine i_and ?_)
  | (with_reducible refine i_or ?_)
  | (with_reducible refine i_not ?_)
  | (with_reducible refine i_tt ?_)
  | (with_reducible refine i_ff ?_)
  | (with_reducible refine i_nott ?_)
  | (with_reducible refine i_notf ?_)
  | (with_reducible refine i_andV ?_)
  | (with_reducible refine i_orV ?_)
  | (with_reducible refine i_notV ?_)
  | (with_reducible refine i_ifE ?_)
  | (with_reducible refine i_tup ?_)
  | (with_reducible refine i_lst ?_)
  | (with_reducible refine i_un ?_)
  | (with_reducible refine i_neg ?_)
  | (with_reducible refine i_chain ?_)
  | (with_reducible refine i_next ?_)
  | (with_reducible refine i_retN ?_)
  | (with_reducible refine i_drop ?_)
  | (with_reducible refine i_int_int ?_)
  | (with_reducible refine i_abs ?_)
  | (with_reducible refine i_m1c ?_)
  | (with_reducible refine i_is_non ?_)
  | (with_reducible refine i_is_int ?_)
  | (with_reducible refine i_is_bl ?_)
  | (with_reducible refine i_isn_bl ?_)
  | (with_reducible refine i_is_str ?_)
  | (with_reducible refine i_is_ref ?_)
  | (with_reducible refine i_isn_non ?_)
  | (with_reducible refine i_isn_int ?_)
  | (with_reducible refine i_isn_str ?_)
  | (with_reducible refine i_isn_ref ?_)
  | (with_reducible refine i_len_str ?h1 ?_; (case h1 => walk_at "o"))
  | (with_reducible refine i_callD ?_)
  | (with_reducible refine i_spD2 ?_)
  | (with_reducible refine i_spM1 ?_)
  | (with_reducible refine i_spM2 ?_)
  | (with_reducible refine i_spM3 ?_)
  | (with_reducible refine i_spM4 ?_)
  | (with_reducible refine i_spM3d ?_)
  | (with_reducible refine i_tfld ?_)
  | (with_reducible refine i_sfld ?_)
  | (with_reducible refine i_meth ?_)
  | (with_reducible refine i_make ?_)
  | (with_reducible refine i_spl ?_)
  | (with_reducible refine i_mkE2 ?_)
  | (with_reducible refine i_ex2 ?_)
  | (with_reducible refine i_dget ?_)
  | (with_reducible refine i_tru ?_)
  | (with_reducible refine i_dput ?_)
  | (with_reducible refine i_dnotin ?_)
  | (with_reducible refine i_din ?_)
  | (with_reducible refine i_rev ?_)
  | (with_reducible refine i_isi_int_int ?_) | (with_reducible refine i_isi_int_bool ?_) | (with_reducible refine i_isi_int_str ?_) | (with_reducible refine i_isi_int_tuple ?_) | (with_reducible refine i_isi_int_list ?_)
  | (with_reducible refine i_isi_bl_int ?_) | (with_reducible refine i_isi_bl_bool ?_) | (with_reducible refine i_isi_bl_str ?_) | (with_reducible refine i_isi_bl_tuple ?_) | (with_reducible refine i_isi_bl_list ?_)
  | (with_reducible refine i_isi_str_int ?_) | (with_reducible refine i_isi_str_bool ?_) | (with_reducible refine i_isi_str_str ?_) | (with_reducible refine i_isi_str_tuple ?_) | (with_reducible refine i_isi_str_list ?_)
  | (with_reducible refine i_isi_non_int ?_) | (with_reducible refine i_isi_non_bool ?_) | (with_reducible refine i_isi_non_str ?_) | (with_reducible refine i_isi_non_tuple ?_) | (with_reducible refine i_isi_non_list ?_))
local macro_rules | `(tactic| walk_at "go") => `(tactic| (repeat' (walk_at "s")))
local macro_rules | `(tactic| walk_at "n") => `(tactic| simp only [wipe, List.map_cons, List.map_nil, List.set_cons_zero, List.set_cons_succ])
/-! ### the law's own look at signals -/
def seqD : PyData → Option (List PyData)
  | .list es => some es
  | .tuple es => some es
  | _ => none
theorem seq_at {H : Hp} {v : V} {d : PyData} {ds : List PyData} (h : At H v d) (e : seqD d = some ds) : ∃ a xs, v = .ref a ∧ xs.length ≤ 10000 ∧ AtAll H xs ds ∧ (H a = some (.lst xs) ∨ H a = some (.tup xs)) := by
  cases d with
  | list es =>
    cases e
    obtain ⟨a, xs, rfl, hA, hl, al⟩ := h.listed
    exact ⟨a, xs, rfl, hl, al, .inl hA⟩
  | tuple es =>
    cases e
    obtain ⟨a, xs, rfl, hA, hl, al⟩ := h.tupled
    exact ⟨a, xs, rfl, hl, al, .inr hA⟩
  | _ => cases e
section
variable {K : PySem.W.Frag} {H : Hp} {Q : VK} {a : Addr} {xs : List V} {i : Nat} {v : V}
theorem i_lenQ (h : H a = some (.lst xs) ∨ H a = some (.tup xs)) (q : Q (.int (xs.length : Int)) H) : rLenP K [.ref a] H Q := by
  rcases h with h | h
  · exact i_len_lst (.inl (.inl h)) q
  · exact i_len_tup (.inl (.inl h)) q
theorem i_ixQ (h : H a = some (.lst xs) ∨ H a = some (.tup xs)) (e : xs[i]? = some v) (q : Q v H) : ixP K (.ref a) (.int (i : Int)) H Q := by
  rcases h with h | h
  · exact i_ix_lst (.inl (.inl h)) (atI_nat e) q
  · exact i_ix_tup (.inl (.inl h)) (atI_nat e) q
def isTl : PyData → Bool | .tuple _ => true | _ => false
def isLl : PyData → Bool | .list _ => true | _ => false
theorem i_isiTl {d : PyData} (h : At H v d) (q : Q (.bl (isTl d)) H) : rIsi K [v, .ty "tuple"] H Q := by
  cases d with
  | none => exact i_isiD h (kit_ty (show kitB "NoneType" "tuple" = some false by decide +kernel)) q
  | bool b => exact i_isiD h (kit_ty (show kitB "bool" "tuple" = some false by decide +kernel)) q
  | int b => exact i_isiD h (kit_ty (show kitB "int" "tuple" = some false by decide +kernel)) q
  | str b => exact i_isiD h (kit_ty (show kitB "str" "tuple" = some false by decide +kernel)) q
  | list b => exact i_isiD h (kit_ty (show kitB "list" "tuple" = some false by decide +kernel)) q
  | tuple b => exact i_isiD h (kit_ty (show kitB "tuple" "tuple" = some true by decide +kernel)) q
  | dict b => exact i_isiD h (kit_ty (show kitB "dict" "tuple" = some false by decide +kernel)) q
theorem i_isiLl {d : PyData} (h : At H v d) (q : Q (.bl (isLl d)) H) : rIsi K [v, .ty "list"] H Q := by
  cases d with
  | none => exact i_isiD h (kit_ty (show kitB "NoneType" "list" = some false by decide +kernel)) q
  | bool b => exact i_isiD h (kit_ty (show kitB "bool" "list" = some false by decide +kernel)) q
  | int b => exact i_isiD h (kit_ty (show kitB "int" "list" = some false by decide +kernel)) q
  | str b => exact i_isiD h (kit_ty (show kitB "str" "list" = some false by decide +kernel)) q
  | list b => exact i_isiD h (kit_ty (show kitB "list" "list" = some true by decide +kernel)) q
  | tuple b => exact i_isiD h (kit_ty (show kitB "tuple" "list" = some false by decide +kernel)) q
  | dict b => exact i_isiD h (kit_ty (show kitB "dict" "list" = some false by decide +kernel)) q
end
theorem deep_seq {d : PyData} {ds : List PyData} (e : seqD d = some ds) : deepD d = .tuple (ds.map deepD) := by
  cases d <;> first
    | (cases e; rw [← deepDs_map]; rfl)
    | cases e
theorem deep_seq_no {d : PyData} (e : seqD d = none) : isSigD (deepD d) = false ∧ sgsD (deepD d) = some (-1) ∧ isTl d = false ∧ isLl d = false := by
  cases d <;> first
    | exact ⟨rfl, rfl, rfl, rfl⟩
    | cases e
theorem seq_kind {d : PyData} {ds : List PyData} (e : seqD d = some ds) : isTl d = true ∨ (isTl d = false ∧ isLl d = true) := by
  cases d <;> first
    | exact .inl rfl
    | exact .inr ⟨rfl, rfl⟩
    | cases e
theorem wr_row (d : PyData) : (wrD 12 d).isNone = (isRowD 12 (deepD d) && neS (deepD d)) := by
  cases d with
  | str x =>
    show (wrL 12 x.cps.toList).isNone = (rowL 12 x.cps.toList && decide (x.cps.toList ≠ []))
    generalize x.cps.toList = l
    unfold wrL rowL
    by_cases h1 : l = []
    · subst h1
      rfl
    · have := List.length_pos_iff.mpr h1
      by_cases h2 : (l.length : Int) ≤ 12
      · rw [if_pos ⟨this, h2⟩, decide_eq_true h2, decide_eq_true h1, Bool.true_and, Bool.and_true]
        cases firstBad l <;> rfl
      · rw [if_neg (fun z => h2 z.2), decide_eq_false h2]
        rfl
  | _ => rfl
theorem let_str {d : PyData} (h : isStrD d = false) : isLetD (deepD d) = false := by
  cases d <;> first
    | rfl
    | cases h
theorem sg_pairD {e a b : PyData} (h : seqD e = some [a, b]) : isSigD (deepD e) = (isLetD (deepD a) && (wrD 12 b).isNone) ∧ sgKey (deepD e) = sgKey (.tuple [deepD a, deepD b]) := by
  rw [deep_seq h, wr_row]
  exact ⟨rfl, rfl⟩
theorem let_one (c : Nat) : letL [c] = decide (c ∈ AZ) := by
  show (decide (1 = 1) && (decide (c ∈ AZ) && true)) = _
  rw [Bool.and_true, decide_eq_true rfl, Bool.true_and]
theorem sg_two {e : PyData} {es : List PyData} (h : seqD e = some es) (l : es.length ≠ 2) : isSigD (deepD e) = false := by
  rw [deep_seq h]
  match es, l with
  | [], _ => rfl
  | [_], _ => rfl
  | [_, _], l => exact absurd rfl l
  | _ :: _ :: _ :: _, _ => rfl
section
variable {P : Program} {w : World} {K : PySem.W.Frag} {mg : Str → Option Value} {base : Heap} {C_GlimError C_BadRow C_BadRound C_BadSignal C_BadMessage C_Signals C_dt_Signals___init__ : Addr}
def p_L_wrong_signal : P1 := fun x H Q _ => ∃ d, At H x d ∧ ∀ H', Same H H' → Q (iV (sgsD (deepD d))) H'
theorem ok_L_wrong_signal (T : Txt K mg C_GlimError C_BadRow C_BadRound C_BadSignal C_BadMessage C_Signals C_dt_Signals___init__) : OK P w K mg base CX0 2 "_law_wrong_signal" ["_law_told"] (sp1  p_L_wrong_signal) := by
  refine OK.mk (k := 1) T.d_L_wrong_signal sc_L_wrong_signal len1 fun f cdv A outer s H vs Q E hr h => ?_
  obtain ⟨x, rfl, h⟩ := h
  refine ⟨_, (Evl.pss_cut (ps_if (pw_or (pt_not (pw_or (pt_val (pe_callB (cIsi K) (by rfl) T.b_isinstance (by decide +kernel) (pa_cons (pv 0) (pa_cons (pe_bltn (v := .ty "tuple") (by rfl) T.b_tuple (by decide +kernel) rfl) pa_nil)))) (pw_or1 (pt_val (pe_callB (cIsi K) (by rfl) T.b_isinstance (by decide +kernel) (pa_cons (pv 0) (pa_cons (pe_bltn (v := .ty "list") (by rfl) T.b_list (by decide +kernel) rfl) pa_nil)))))).pt) (pw_or1 (pt_cmpR op_gtP (pe_callB (cLen K) (by rfl) T.b_len (by decide +kernel) (pa_cons (pv 0) pa_nil)) pe_int (nomark _)))).pt (pss_one (ps_ret (pe_un un_neg pe_int))) pss_nil) (pss_cons (ps_set (i := 1) sc_L_wrong_signal.nd rfl (Or.inl rfl) (pe_lst pa_nil)) (pss_cons (ps_for PassesOwn.never rfl (pi_range1 rfl T.b_range (pa_cons (pe_callB (cLen K) (by rfl) T.b_len (by decide +kernel) (pa_cons (pv 0) pa_nil)) pa_nil)) (pg_name (i := 2) sc_L_wrong_signal.nd rfl (Or.inl rfl)) (pss_cons (ps_set (i := 3) sc_L_wrong_signal.nd rfl (Or.inl rfl) (pe_ix (ixK K) (pv 0) (pv 2) (fun _ _ => rfl))) (Evl.pss_cut (ps_if (pw_or (pt_not (pw_or (pt_val (pe_callB (cIsi K) (by rfl) T.b_isinstance (by decide +kernel) (pa_cons (pv 3) (pa_cons (pe_bltn (v := .ty "tuple") (by rfl) T.b_tuple (by decide +kernel) rfl) pa_nil)))) (pw_or1 (pt_val (pe_callB (cIsi K) (by rfl) T.b_isinstance (by decide +kernel) (pa_cons (pv 3) (pa_cons (pe_bltn (v := .ty "list") (by rfl) T.b_list (by decide +kernel) rfl) pa_nil)))))).pt) (pw_or1 (pt_cmpR (opNe K hr.units) (pe_callB (cLen K) (by rfl) T.b_len (by decide +kernel) (pa_cons (pv 3) pa_nil)) pe_int (nomark _)))).pt (pss_one (ps_ret (pv 2))) pss_nil) (Evl.pss_cut (ps_if (pw_or (pt_not (pt_val (pe_callB (cIsi K) (by rfl) T.b_isinstance (by decide +kernel) (pa_cons (pe_ix (ixK K) (pv 3) pe_int (fun _ _ => rfl)) (pa_cons (pe_bltn (v := .ty "str") (by rfl) T.b_str (by decide +kernel) rfl) pa_nil))))) (pw_or (pt_cmpR (opNe K hr.units) (pe_callB (cLen K) (by rfl) T.b_len (by decide +kernel) (pa_cons (pe_ix (ixK K) (pv 3) pe_int (fun _ _ => rfl)) pa_nil)) pe_int (nomark _)) (pw_or1 (pt_cmpR (opNotIn K) (pe_ix (ixK K) (pv 3) pe_int (fun _ _ => rfl)) (pe_S [97, 98, 99, 100, 101, 102, 103, 104, 105, 106, 107, 108, 109, 110, 111, 112, 113, 114, 115, 116, 117, 118, 119, 120, 121, 122]) (by with_unfolding_all rfl))))).pt (pss_one (ps_ret (pv 2))) pss_nil) (Evl.pss_cut (ps_if (pw_or (pt_cmpR (opIn K) (pe_ix (ixK K) (pv 3) pe_int (fun _ _ => rfl)) (pv 1) (by with_unfolding_all rfl)) (pw_or1 (pt_cmpR op_isNotP (pe_f (ok_L_wrong_sign (K := K) T) (hr.mono (by decide)) pass0 (pa_cons (pe_ix (ixK K) (pv 3) pe_int (fun _ _ => rfl)) (pa_cons pe_int pa_nil))) pe_non (nomark _)))).pt (pss_one (ps_ret (pv 2))) pss_nil) (pss_one (ps_expr (peApp K (pv 1) (pa_cons (pe_ix (ixK K) (pv 3) pe_int (fun _ _ => rfl)) pa_nil))))))))) (pss_one (ps_ret pe_non))))), ?_⟩
  show (_ : TS) { nx := fun _ H' => Q .non H', rt := Q } [some x, none, none, none] H
  obtain ⟨d, hx, q⟩ := h
  have q0 := q H (Same.refl H)
  walk_at "go"
  refine i_cut (fun σ G => σ = [some x, none, none, none] ∧ G = H ∧ ∃ ds, seqD d = some ds ∧ ds.length ≤ 4) ?_ ?_
  · walk_at "go"
    refine i_isiTl hx ?_
    cases es : seqD d with
    | none =>
      obtain ⟨_, h2, h3, h4⟩ := deep_seq_no es
      rw [h2] at q0
      rw [h3]
      walk_at "go"
      refine i_isiLl hx ?_
      rw [h4]
      walk_at "go"
      exact q0
    | some ds =>
      obtain ⟨a, xs, rfl, hl, al, hs⟩ := seq_at hx es
      have ll := al.len
      rw [deep_seq es] at q0
      change Q (iV (if (ds.map deepD).length ≤ 4 then (sgBad [] 0 (ds.map deepD)).map fun n : Nat => (n : Int) else some (-1))) H at q0
      rw [List.length_map] at q0
      rcases seq_kind es with e1 | ⟨e1, e2⟩
      · rw [e1]
        walk_at "go"
        refine i_lenQ hs ?_
        walk_at "go"
        refine i_dec (fun c1 => ?_) (fun c1 => ?_)
        · rw [if_neg (by omega)] at q0
          walk_at "go"
          exact q0
        · walk_at "go"
          exact ⟨rfl, rfl, ds, rfl, by omega⟩
      · rw [e1]
        walk_at "go"
        refine i_isiLl hx ?_
        rw [e2]
        walk_at "go"
        refine i_lenQ hs ?_
        walk_at "go"
        refine i_dec (fun c1 => ?_) (fun c1 => ?_)
        · rw [if_neg (by omega)] at q0
          walk_at "go"
          exact q0
        · walk_at "go"
          exact ⟨rfl, rfl, ds, rfl, by omega⟩
  · rintro σ G ⟨rfl, rfl, ds, es, l4⟩
    obtain ⟨a, xs, rfl, hl, al, hs⟩ := seq_at hx es
    have ll := al.len
    rw [deep_seq es] at q
    change ∀ H', Same G H' → Q (iV (if (ds.map deepD).length ≤ 4 then (sgBad [] 0 (ds.map deepD)).map fun n : Nat => (n : Int) else some (-1))) H' at q
    rw [List.length_map, if_pos l4] at q
    walk_at "go"
    refine i_new (by show 0 ≤ 100000; omega) fun u nu0 => ?_
    have s0 : Same G (upd G u (.lst [])) := same_upd nu0
    walk_at "go"
    refine i_forR ?_
    walk_at "go"
    refine i_lenQ (hs.imp (s0 _ _) (s0 _ _)) ?_
    walk_at "go"
    refine i_rngD (by omega) (by omega) (fun i σ' H' => ∃ (v2 v3 : Option V) (us : List (List Nat)), σ' = [some (.ref a), some (.ref u), v2, v3] ∧ Same G H' ∧ H' u = some (.lst (us.map S)) ∧ us.length ≤ i ∧ sgBad [] 0 (ds.map deepD) = sgBad us.reverse i ((ds.map deepD).drop i))
      ⟨none, none, [], rfl, s0, upd_same, Nat.zero_le _, rfl⟩ ?_ ?_
    · rintro i σ' H' hi ⟨v2, v3, us, rfl, s1, hu, lu, eb⟩
      have hi' : i < ds.length := by omega
      obtain ⟨v, hv, av⟩ := al.at (List.getElem?_eq_getElem hi')
      generalize hee : ds[i] = e at av
      have ed : (ds.map deepD).drop i = deepD e :: (ds.map deepD).drop (i + 1) := by
        rw [List.drop_eq_getElem_cons (by rw [List.length_map]; exact hi'), List.getElem_map, hee]
      rw [ed] at eb
      have eb : sgBad [] 0 (ds.map deepD) = if isSigD (deepD e) && !decide (sgKey (deepD e) ∈ us.reverse) then sgBad (sgKey (deepD e) :: us.reverse) (i + 1) ((ds.map deepD).drop (i + 1)) else some i := eb
      have bad : (isSigD (deepD e) && !decide (sgKey (deepD e) ∈ us.reverse)) = false → ∀ G', Same H' G' → Q (.int (i : Int)) G' := fun h G' s' => by
        rw [h, if_neg (by decide)] at eb
        rw [eb] at q
        exact q G' (s1.trans s')
      have av1 := av.same s1
      walk_at "go"
      refine i_ixQ (hs.imp (s1 _ _) (s1 _ _)) hv ?_
      walk_at "go"
      refine i_cut (fun σ G2 => σ = [some (.ref a), some (.ref u), some (.int (i : Int)), some v] ∧ G2 = H' ∧ ∃ b c, seqD e = some [b, c]) ?_ ?_
      · walk_at "go"
        refine i_isiTl av1 ?_
        cases ee : seqD e with
        | none =>
          obtain ⟨h1, _, h3, h4⟩ := deep_seq_no ee
          rw [h3]
          walk_at "go"
          refine i_isiLl av1 ?_
          rw [h4]
          walk_at "go"
          exact bad (by rw [h1]; rfl) _ (Same.refl _)
        | some fs =>
          obtain ⟨a2, ys, rfl, _, al2, hs2⟩ := seq_at av1 ee
          have l2 := al2.len
          rcases seq_kind ee with e1 | ⟨e1, e2⟩
          · rw [e1]
            walk_at "go"
            refine i_lenQ hs2 ?_
            walk_at "go"
            refine i_decN (fun c1 => ?_) (fun c1 => ?_)
            · walk_at "go"
              exact bad (by rw [sg_two ee (by omega)]; rfl) _ (Same.refl _)
            · walk_at "go"
              match fs, (show fs.length = 2 by omega) with
              | [b, c], _ => exact ⟨rfl, rfl, b, c, rfl⟩
          · rw [e1]
            walk_at "go"
            refine i_isiLl av1 ?_
            rw [e2]
            walk_at "go"
            refine i_lenQ hs2 ?_
            walk_at "go"
            refine i_decN (fun c1 => ?_) (fun c1 => ?_)
            · walk_at "go"
              exact bad (by rw [sg_two ee (by omega)]; rfl) _ (Same.refl _)
            · walk_at "go"
              match fs, (show fs.length = 2 by omega) with
              | [b, c], _ => exact ⟨rfl, rfl, b, c, rfl⟩
      rintro σ G2 ⟨rfl, rfl, b, c, ee⟩
      obtain ⟨a2, ys, rfl, _, al2, hs2⟩ := seq_at av1 ee
      obtain ⟨hsg, hkey⟩ := sg_pairD ee
      obtain ⟨v0, hv0, ab⟩ := al2.at (i := 0) rfl
      obtain ⟨v1, hv1, ac⟩ := al2.at (i := 1) rfl
      rw [hsg, hkey] at bad eb
      walk_at "go"
      refine i_cut (fun σ G => σ = [some (.ref a), some (.ref u), some (.int (i : Int)), some (.ref a2)] ∧ G = G2 ∧ ∃ k, b = dS [k] ∧ v0 = S [k] ∧ k ∈ AZ) ?_ ?_
      · have nolet : isLetD (deepD b) = false → ∀ G', Same G2 G' → Q (.int (i : Int)) G' := fun h => bad (by rw [h]; rfl)
        walk_at "go"
        refine i_ixQ (i := 0) hs2 hv0 ?_
        walk_at "go"
        cases b
        case str z =>
          obtain ⟨l, rfl, rfl, hl⟩ := ab.strl
          have nolet : letL l = false → ∀ G', Same G2 G' → Q (.int (i : Int)) G' := nolet
          unfold letL at nolet
          walk_at "go"
          refine i_ixQ (i := 0) hs2 hv0 ?_
          walk_at "go"
          refine i_decN (fun c1 => ?_) (fun c1 => ?_)
          · walk_at "go"
            exact nolet (by rw [decide_eq_false (show ¬ l.length = 1 by omega)]; rfl) _ (Same.refl _)
          · obtain ⟨c0, rfl⟩ := List.length_eq_one_iff.mp (show l.length = 1 by omega)
            walk_at "go"
            refine i_ixQ (i := 0) hs2 hv0 ?_
            walk_at "go"
            refine i_decN (fun c2 => ?_) (fun c2 => ?_)
            · walk_at "go"
              exact nolet (by show (true && (decide (c0 ∈ AZ) && true)) = false; rw [decide_eq_false c2]; rfl) _ (Same.refl _)
            · walk_at "go"
              exact ⟨rfl, rfl, c0, rfl, rfl, c2⟩
        all_goals
          refine i_isiStr false ab rfl ?_
          walk_at "go"
          exact nolet rfl _ (Same.refl _)
      rintro σ G ⟨rfl, rfl, k, rfl, rfl, hk⟩
      have el : isLetD (deepD (dS [k])) = true := by
        show letL [k] = true
        rw [let_one, decide_eq_true hk]
      have ek : sgKey (.tuple [deepD (dS [k]), deepD c]) = [k] := rfl
      rw [el, Bool.true_and, ek] at bad eb
      walk_at "go"
      refine i_cut (fun σ G3 => σ = [some (.ref a), some (.ref u), some (.int (i : Int)), some (.ref a2)] ∧ Same G G3 ∧ [k] ∉ us ∧ wrD 12 c = none) ?_ ?_
      · walk_at "go"
        refine i_ixQ (i := 0) hs2 hv0 ?_
        walk_at "go"
        refine i_inS (l := [k]) hu ?_
        walk_at "go"
        refine i_dec (fun c1 => ?_) (fun c1 => ?_)
        · walk_at "go"
          exact bad (by simp [c1]) _ (Same.refl _)
        · walk_at "go"
          refine i_ixQ (i := 1) hs2 hv1 ?_
          walk_at "go"
          refine ⟨c, 12, ac, rfl, fun G3 s3 => ?_⟩
          cases ew : wrD 12 c with
          | none =>
            rw [show iV none = V.non from rfl]
            walk_at "go"
            exact ⟨rfl, s3, c1, rfl⟩
          | some n =>
            rw [show iV (some n) = V.int n from rfl]
            walk_at "go"
            exact bad (by rw [ew]; rfl) _ s3
      rintro σ G3 ⟨rfl, s3, nu, ew⟩
      rw [ew, if_pos (by simp [nu])] at eb
      walk_at "go"
      refine i_appAt (s3 _ _ hu) ?_
      walk_at "go"
      refine i_ixQ (i := 0) (hs2.imp (s3 _ _) (s3 _ _)) hv0 ?_
      walk_at "go"
      refine i_appEnd (s3 _ _ hu) (by rw [List.length_map]; omega) ?_
      walk_at "go"
      refine ⟨_, _, us ++ [[k]], rfl, Same.upd (s1.trans s3) nu0, by rw [List.map_append]; exact upd_same, by rw [List.length_append]; show _ + 1 ≤ _; omega, ?_⟩
      rw [List.reverse_append]
      exact eb
    · rintro σ' H' ⟨v2, v3, us, rfl, s1, hu, lu, eb⟩
      rw [List.drop_of_length_le (by rw [List.length_map]; omega)] at eb
      have eb : sgBad [] 0 (ds.map deepD) = none := eb
      rw [eb] at q
      walk_at "go"
      exact q H' s1
end
end K75
namespace K75
open PySem PySem.Spec PyProof.Rows L2 Fg
local macro_rules | `(tactic| walk_at "sq") => `(tactic| first
  | assumption
  | exact .inl (.inl (by assumption))
  | exact .inl (.inl upd_same))
local macro_rules | `(tactic| walk_at "st") => `(tactic| first
  | assumption
  | exact .inl (.inl (by assumption))
  | exact .inl (.inl upd_same))
local macro_rules | `(tactic| walk_at "o") => `(tactic| first
  | omega
  | assumption
  | (simp only [List.length_append, List.length_take, List.length_drop, List.length_cons, List.length_nil, List.length_singleton, List.length_map, List.length_range, Int.toNat_natCast] ; omega))
local macro_rules | `(tactic| walk_at "s") => `(tactic| first
  | (with_reducible refine i_seq ?_)
  | (with_reducible refine i_asg ?_)
  | ((with_reducible refine' i_var ?h1 ?_); (case h1 => rfl))
  | (with_reducible refine i_c ?_)
  | ((with_reducible refine' i_gname' ?h1 ?_); (case h1 => (simp only [List.set_cons_zero, List.set_cons_succ]; rfl)))
  | (with_reducible refine i_op ?_)
  | (with_reducible refine i_ifS ?_)
  | (with_reducible refine i_for ?_)
  | (with_reducible refine i_test ?_)
  | (with_reducible refine i_B ?_)
  | (with_reducible refine i_exbl ?_)
  | (with_reducible refine i_exint ?_)
  | (with_reducible refine i_cb ?_)
  | (with_reducible refine i_nil ?_)
  | (with_reducible refine i_cons ?_)
  | (with_reducible refine i_ret ?_)
  | (with_reducible refine i_sl ?_)
  | (with_reducible refine i_nopart ?_)
  | (with_reducible refine i_part ?_)
  | (with_reducible refine i_add_int ?_)
  | (with_reducible refine i_sub ?_)
  | (with_reducible refine i_lt ?_)
  | ((with_reducible refine' i_mod ?h1 ?_); (case h1 => walk_at "o"))
  | ((with_reducible refine' i_fdiv ?h1 ?_); (case h1 => (refine cdiv_small ?_ ?_ <;> walk_at "o")))
  | ((with_reducible refine' i_sl_to ?h1 ?h2 ?_); (case h1 => walk_at "o"); (case h2 => walk_at "o"))
  | ((with_reducible refine' i_sl_from ?h1 ?h2 ?_); (case h1 => walk_at "o"); (case h2 => walk_at "o"))
  | ((with_reducible refine' i_add_str ?h1 ?_); (case h1 => walk_at "o"))
  | ((with_reducible refine' i_mul_int ?h1 ?_); (case h1 => first | (refine mul_small ?_ ?_ <;> walk_at "o") | (refine mul_smallR ?_ ?_ <;> walk_at "o")))
  | (with_reducible refine i_le ?_)
  | (with_reducible refine i_gt ?_)
  | (with_reducible refine i_ge ?_)
  | (with_reducible refine i_eq_int ?_)
  | (with_reducible refine i_eq_str ?_)
  | (with_reducible refine i_ne_int ?_)
  | (with_reducible refine i_ne_str ?_)
  | (with_reducible refine i_eq_bl ?_)
  | (with_reducible refine i_ne_bl ?_)
  | (with_reducible refine i_in_sg ?_)
  | (with_reducible refine i_notIn_sg ?_)
  | (with_reducible refine i_call ?_)
  | (with_reducible refine i_callS ?_)
  | (with_reducible refine i_sp1 ?_)
  | (with_reducible refine i_sp2 ?_)
  | (with_reducible refine i_sp3 ?_)
  | (with_reducible refine i_sp4 ?_)
  | (with_reducible refine i_sp1' ?_)
  | (with_reducible refine i_sp2' ?_)
  | (with_reducible refine i_sp3' ?_)
  | ((with_reducible refine' i_ix_lst ?h1 ?h2 ?_); (case h1 => walk_at "sq"); (case h2 => first | exact atI_nat rfl | rfl))
  | ((with_reducible refine' i_ix_tup ?h1 ?h2 ?_); (case h1 => walk_at "st"); (case h2 => first | exact atI_nat rfl | rfl))
  | (with_reducible refine i_gsub ?_)
  | (with_reducible refine i_par ?_)
  | (with_reducible refine i_lstRg1 ?_)
  | (with_reducible refine i_app ?_)
  | (with_reducible refine i_par2 ?_)
  | ((with_reducible refine' i_aug ?h1 ?_); (case h1 => rfl))
  | (with_reducible refine i_ipI ?_)
  | ((with_reducible refine' i_gtup2 ?h1 ?_); (case h1 => walk_at "st"))
  | (with_reducible refine i_int_bl ?_)
  | (with_reducible refine i_raise ?_)
  | (with_reducible refine i_mkE ?_)
  | (with_reducible refine i_ex1 ?_)
  | (with_reducible refine i_and ?_)
  | (with_reducible refine i_or ?_)
  | (with_reducible refine i_not ?_)
  | (with_reducible refine i_tt ?_)
  | (with_reducible refine i_ff ?_)
  | (with_reducible refine i_nott ?_)
  | (with_reducible refine i_notf ?_)
  | (with_reducible refine i_andV ?_)
  | (with_reducible refine i_orV ?_)
  | (with_reducible refine i_notV ?_)
  | (with_reducible refine i_ifE ?_)
  | (with_reducible refine i_tup ?_)
  | (with_reducible refine i_lst ?_)
  | (with_reducible refine i_un ?_)
  | (with_reducible refine i_neg ?_)
  | (with_reducible refine i_chain ?_)
  | (with_reducible refine i_next ?_)
  | (with_reducible refine i_retN ?_)
  | (with_reducible refine i_drop ?_)
  | (with_reducible refine i_int_int ?_)
  | (with_reducible refine i_abs ?_)
  | (with_reducible refine i_m1c ?_)
  | (with_reducible refine i_is_non ?_)
  | (with_reducible refine i_is_int ?_)
  | (with_reducible refine i_is_bl ?_)
  | (with_reducible refine i_isn_bl ?_)
  | (with_reducible refine i_is_str ?_)
  | (with_reducible refine i_is_ref ?_)
  | (with_reducible refine i_isn_non ?_)
  | (with_reducible refine i_isn_int ?_)
  | (with_reducible refine i_isn_str ?_)
  | (with_reducible refine i_isn_ref ?_)
  | (with_reducible refine i_len_str ?h1 ?_; (case h1 => walk_at "o"))
  | (with_reducible refine i_callD ?_)
  | (with_reducible refine i_spD2 ?_)
  | (with_reducible refine i_spM1 ?_)
  | (with_reducible refine i_spM2 ?_)
  | (with_reducible refine i_spM3 ?_)
  | (with_reducible refine i_spM4 ?_)
  | (with_reducible refine i_spM3d ?_)
  | (with_reducible refine i_tfld ?_)
  | (with_reducible refine i_sfld ?_)
  | (with_reducible refine i_meth ?_)
  | (with_reducible refine i_make ?_)
  | (with_reducible refine i_spl ?_)
  | (with_reducible refine i_mkE2 ?_)
  | (with_reducible refine i_ex2 ?_)
  | (with_reducible refine i_dget ?_)
  | (with_reducible refine i_tru ?_)
  | (with_reducible refine i_dput ?_)
  | (with_reducible refine i_dnotin ?_)
  | (with_reducible refine i_din ?_)
  | (with_reducible refine i_rev ?_)
  | (with_reducible refine i_isi_int_int ?_) | (with_reducible refine i_isi_int_bool ?_) | (with_reducible refine i_isi_int_str ?_) | (with_reducible refine i_isi_int_tuple ?_) | (with_reducible refine i_isi_int_list ?_)
  | (with_reducible refine i_isi_bl_int ?_) | (with_reducible refine i_isi_bl_bool ?_) | (with_reducible refine i_isi_bl_str ?_) | (with_reducible refine i_isi_bl_tuple ?_) | (with_reducible refine i_isi_bl_list ?_)
  | (with_reducible refine i_isi_str_int ?_) | (with_reducible refine i_isi_str_bool ?_) | (with_reducible refine i_isi_str_str ?_) | (with_reducible refine i_isi_str_tuple ?_) | (with_reducible refine i_isi_str_list ?_)
  | (with_reducible refine i_isi_non_int ?_) | (with_reducible refine i_isi_non_bool ?_) | (with_reducible refine i_isi_non_str ?_) | (with_reducible refine i_isi_non_tuple ?_) | (with_reducible refine i_isi_non_list ?_))
local macro_rules | `(tactic| walk_at "go") => `(tactic| (repeat' (walk_at "s")))
local macro_rules | `(tactic| walk_at "n") => `(tactic| simp only [wipe, List.map_cons, List.map_nil, List.set_cons_zero, List.set_cons_succ])
/-! ### refused well -/
abbrev cRound : List Nat := [114, 111, 117, 110, 100]
abbrev cSignal : List Nat := [115, 105, 103, 110, 97, 108]
abbrev cMade : List Nat := [109, 97, 100, 101]
def dueD (a b : Option Int) : PyData := match a with
  | some n => .list [dS cRound, .int n]
  | none => match b with
    | some n => .list [dS cSignal, .int n]
    | none => .list [dS cMade]
theorem i_eq_bls {K : PySem.W.Frag} {H : Hp} {Q : VK} {a b : Addr} {bs cs : List Bool} (ha : H a = some (.lst (bs.map V.bl))) (hb : H b = some (.lst (cs.map V.bl))) (h1 : SeqAt.shaped (.list (bs.map .bool)) = true) (h2 : SeqAt.shaped (.list (cs.map .bool)) = true)
    (r : Bool) (e : PyData.eqv (.list (bs.map .bool)) (.list (cs.map .bool)) = r) (q : Q (.bl r) H) : eqP K (.ref a) (.ref b) H Q := by
  have dp : ∀ l : List Bool, DpAll K H (l.map V.bl) (l.map .bool) := fun l => by
    induction l with
    | nil => exact .nil
    | cons x r ih => exact .cons (.bl x) ih
  exact i_eq_data (.lst (.inl (.inl ha)) (dp bs)) (.lst (.inl (.inl hb)) (dp cs)) h1 h2 e q
section
variable {P : Program} {w : World} {K : PySem.W.Frag} {mg : Str → Option Value} {base : Heap} {C_GlimError C_BadRow C_BadRound C_BadSignal C_BadMessage C_Signals C_dt_Signals___init__ : Addr}
def p_L_made : P2 := fun x y H Q _ => ∃ d1 d2, At H x d1 ∧ At H y d2 ∧ d2.depth < 6 ∧ ∀ H' v, Same H H' → At H' v (dueD (rndD d1) (sgsD (deepD d2))) → Q v H'
theorem ok_L_made (T : Txt K mg C_GlimError C_BadRow C_BadRound C_BadSignal C_BadMessage C_Signals C_dt_Signals___init__) : OK P w K mg base CX0 9 "_law_made" ["_law_plain", "_law_told"] (sp2  p_L_made) := by
  refine OK.mk (k := 8) T.d_L_made sc_L_made len2 fun f cdv A outer s H vs Q E hr h => ?_
  obtain ⟨x, y, rfl, h⟩ := h
  refine ⟨_, (pss_cons (ps_try_as (i := 2) rfl rfl sc_L_made.nd rfl rfl ⟨rfl, by decide, Or.inl T.c_GlimError⟩ takes0 (fun W pn xe tk _ => (pss_one (ps_expr (Fg.pe_mkS (ok_Signals___init__ (K := K) T) (hr.mono (by decide)) (fun σ => passAt tk σ) (pa_cons (pv 0) (pa_cons (pv 1) pa_nil)))))) (fun a oe cls d pn hz hf => (pss_cons (ps_set (i := 3) sc_L_made.nd rfl (Or.inl rfl) (pe_lst (pa_cons (pe_callB (cIsX K hz hf) (by rfl) T.b_isinstance (by decide +kernel) (pa_cons (pv 2) (pa_cons (pe_gR _ T.c_BadRound) pa_nil))) (pa_cons (pe_callB (cIsX K hz hf) (by rfl) T.b_isinstance (by decide +kernel) (pa_cons (pv 2) (pa_cons (pe_gR _ T.c_BadSignal) pa_nil))) (pa_cons (pe_callB (cIsX K hz hf) (by rfl) T.b_isinstance (by decide +kernel) (pa_cons (pv 2) (pa_cons (pe_gR _ T.c_BadRow) pa_nil))) (pa_cons (pe_callB (cIsX K hz hf) (by rfl) T.b_isinstance (by decide +kernel) (pa_cons (pv 2) (pa_cons (pe_gR _ T.c_BadMessage) pa_nil))) pa_nil)))))) (pss_cons (ps_if (pt_cmpR (opEq K hr.units) (pv 3) (pe_lst (pa_cons pe_bl (pa_cons pe_bl (pa_cons pe_bl (pa_cons pe_bl pa_nil))))) (nomark _)) (pss_one (ps_ret (pe_lst (pa_cons (pe_S [114, 111, 117, 110, 100]) (pa_cons (pe_xf T.e_BadRound.xf T.nf_BadRound_number hz hf (pv 2)) pa_nil))))) pss_nil) (pss_cons (ps_if (pt_cmpR (opEq K hr.units) (pv 3) (pe_lst (pa_cons pe_bl (pa_cons pe_bl (pa_cons pe_bl (pa_cons pe_bl pa_nil))))) (nomark _)) (pss_one (ps_ret (pe_lst (pa_cons (pe_S [115, 105, 103, 110, 97, 108]) (pa_cons (pe_xf T.e_BadSignal.xf T.nf_BadSignal_number hz hf (pv 2)) pa_nil))))) pss_nil) (pss_one (ps_ret (pe_lst (pa_cons (pe_S [111, 116, 104, 101, 114]) pa_nil))))))))) (pss_one (ps_ret (pe_lst (pa_cons (pe_S [109, 97, 100, 101]) pa_nil))))), ?_⟩
  show (_ : TS) { nx := fun _ H' => Q .non H', rt := Q } [some x, some y, none, none] H
  obtain ⟨d1, d2, hx, hy, dp, q⟩ := h
  walk_at "go"
  refine i_makeS ?_
  walk_at "go"
  intro p dx np ndx ne
  walk_at "go"
  have sH : Same H (upd (upd H dx (.own p)) p (.ins C_Signals dx [])) := (same_upd ndx).trans (same_upd ((upd_ne ne.symm).trans np))
  refine ⟨p, dx, d1, deepD d2, rfl, upd_same, hx.same sH, .inl ⟨d2, hy.same sH, dp, rfl⟩, ?_⟩
  cases e1 : rndD d1 with
  | some n =>
    rw [e1] at q
    intro dd H1 nd s1 hdd
    have s2 := sH.trans s1
    refine i_caught T.m_BadRound_GlimError fun a na => ?_
    show (_ : TS) _ [some x, some y, some (.ref a), none] H1
    walk_at "go"
    refine i_isX hdd T.e_BadRound (.own _) T.k_BadRound_BadRound ?_
    walk_at "go"
    refine i_isX hdd T.e_BadRound (.own _) T.k_BadRound_BadSignal ?_
    walk_at "go"
    refine i_isX hdd T.e_BadRound (.own _) T.k_BadRound_BadRow ?_
    walk_at "go"
    refine i_isX hdd T.e_BadRound (.own _) T.k_BadRound_BadMessage ?_
    walk_at "go"
    refine i_new (by show 4 ≤ 100000; omega) fun l1 n1 => ?_
    have f1 : (upd H1 l1 (HO.lst [.bl true, .bl false, .bl false, .bl false])) l1 = some (HO.lst [.bl true, .bl false, .bl false, .bl false]) := upd_same
    have s3 := s2.trans (same_upd (o := HO.lst [.bl true, .bl false, .bl false, .bl false]) n1)
    have hd3 := same_upd (o := HO.lst [.bl true, .bl false, .bl false, .bl false]) n1 _ _ hdd
    generalize upd H1 l1 (HO.lst [.bl true, .bl false, .bl false, .bl false]) = H3 at *
    walk_at "go"
    refine i_new (by show 4 ≤ 100000; omega) fun l2 n2 => ?_
    have ne12 : l1 ≠ l2 := ne_of_none f1 n2
    refine i_eq_bls (bs := [true, false, false, false]) (cs := [true, false, false, false]) ((upd_ne ne12).trans f1) upd_same (by decide +kernel) (by decide +kernel) true (by decide +kernel) ?_
    have f1 := (upd_ne (o := HO.lst [.bl true, .bl false, .bl false, .bl false]) ne12).trans f1
    have s3 := s3.trans (same_upd (o := HO.lst [.bl true, .bl false, .bl false, .bl false]) n2)
    have hd3 := same_upd (o := HO.lst [.bl true, .bl false, .bl false, .bl false]) n2 _ _ hd3
    generalize upd H3 l2 (HO.lst [.bl true, .bl false, .bl false, .bl false]) = H4 at *
    walk_at "go"
    refine i_xf rfl hd3 ?_
    walk_at "go"
    refine i_new (by show 2 ≤ 100000; omega) fun r nr => ?_
    exact q _ _ (s3.trans (same_upd nr)) (.lst upd_same (by decide : 2 ≤ 10000) (.cons (.str _ (by decide)) (.cons (.int _) .nil)))
  | none =>
  rw [e1] at q
  cases e2 : sgsD (deepD d2) with
  | some n =>
    rw [e2] at q
    intro dd H1 nd s1 hdd
    have s2 := sH.trans s1
    refine i_caught T.m_BadSignal_GlimError fun a na => ?_
    show (_ : TS) _ [some x, some y, some (.ref a), none] H1
    walk_at "go"
    refine i_isX hdd T.e_BadSignal (.own _) T.k_BadSignal_BadRound ?_
    walk_at "go"
    refine i_isX hdd T.e_BadSignal (.own _) T.k_BadSignal_BadSignal ?_
    walk_at "go"
    refine i_isX hdd T.e_BadSignal (.own _) T.k_BadSignal_BadRow ?_
    walk_at "go"
    refine i_isX hdd T.e_BadSignal (.own _) T.k_BadSignal_BadMessage ?_
    walk_at "go"
    refine i_new (by show 4 ≤ 100000; omega) fun l1 n1 => ?_
    have f1 : (upd H1 l1 (HO.lst [.bl false, .bl true, .bl false, .bl false])) l1 = some (HO.lst [.bl false, .bl true, .bl false, .bl false]) := upd_same
    have s3 := s2.trans (same_upd (o := HO.lst [.bl false, .bl true, .bl false, .bl false]) n1)
    have hd3 := same_upd (o := HO.lst [.bl false, .bl true, .bl false, .bl false]) n1 _ _ hdd
    generalize upd H1 l1 (HO.lst [.bl false, .bl true, .bl false, .bl false]) = H3 at *
    walk_at "go"
    refine i_new (by show 4 ≤ 100000; omega) fun l2 n2 => ?_
    have ne12 : l1 ≠ l2 := ne_of_none f1 n2
    refine i_eq_bls (bs := [false, true, false, false]) (cs := [true, false, false, false]) ((upd_ne ne12).trans f1) upd_same (by decide +kernel) (by decide +kernel) false (by decide +kernel) ?_
    have f1 := (upd_ne (o := HO.lst [.bl true, .bl false, .bl false, .bl false]) ne12).trans f1
    have s3 := s3.trans (same_upd (o := HO.lst [.bl true, .bl false, .bl false, .bl false]) n2)
    have hd3 := same_upd (o := HO.lst [.bl true, .bl false, .bl false, .bl false]) n2 _ _ hd3
    generalize upd H3 l2 (HO.lst [.bl true, .bl false, .bl false, .bl false]) = H4 at *
    walk_at "go"
    refine i_new (by show 4 ≤ 100000; omega) fun l3 n3 => ?_
    have ne13 : l1 ≠ l3 := ne_of_none f1 n3
    refine i_eq_bls (bs := [false, true, false, false]) (cs := [false, true, false, false]) ((upd_ne ne13).trans f1) upd_same (by decide +kernel) (by decide +kernel) true (by decide +kernel) ?_
    have f1 := (upd_ne (o := HO.lst [.bl false, .bl true, .bl false, .bl false]) ne13).trans f1
    have s3 := s3.trans (same_upd (o := HO.lst [.bl false, .bl true, .bl false, .bl false]) n3)
    have hd3 := same_upd (o := HO.lst [.bl false, .bl true, .bl false, .bl false]) n3 _ _ hd3
    generalize upd H4 l3 (HO.lst [.bl false, .bl true, .bl false, .bl false]) = H5 at *
    walk_at "go"
    refine i_xf rfl hd3 ?_
    walk_at "go"
    refine i_new (by show 2 ≤ 100000; omega) fun r nr => ?_
    exact q _ _ (s3.trans (same_upd nr)) (.lst upd_same (by decide : 2 ≤ 10000) (.cons (.str _ (by decide)) (.cons (.int _) .nil)))
  | none =>
  rw [e2] at q
  intro pl ps H' t dd e3 e4 bt sg
  refine ⟨rfl, ?_⟩
  walk_at "go"
  have s4 : Same H H' := fun b o e => by
    have hb : b ≠ p := ne_of_none e np
    exact bt b o hb ((upd_ne hb).trans (same_upd ndx _ _ e))
  refine i_new (by show 1 ≤ 100000; omega) fun r nr => ?_
  exact q _ _ (s4.trans (same_upd nr)) (.lst upd_same (by decide : 1 ≤ 10000) (.cons (.str _ (by decide)) .nil))
end
end K75
namespace K75
open PySem PySem.Spec PyProof.Rows L2 Fg
local macro_rules | `(tactic| walk_at "sq") => `(tactic| first
  | assumption
  | exact .inl (.inl (by assumption))
  | exact .inl (.inl upd_same))
local macro_rules | `(tactic| walk_at "st") => `(tactic| first
  | assumption
  | exact .inl (.inl (by assumption))
  | exact .inl (.inl upd_same))
local macro_rules | `(tactic| walk_at "o") => `(tactic| first
  | omega
  | assumption
  | (simp only [List.length_append, List.length_take, List.length_drop, List.length_cons, List.length_nil, List.length_singleton, List.length_map, List.length_range, Int.toNat_natCast] ; omega))
local macro_rules | `(tactic| walk_at "s") => `(tactic| first
  | (with_reducible refine i_seq ?_)
  | (with_reducible refine i_asg ?_)
  | ((with_reducible refine' i_var ?h1 ?_); (case h1 => rfl))
  | (with_reducible refine i_c ?_)
  | ((with_reducible refine' i_gname' ?h1 ?_); (case h1 => (simp only [List.set_cons_zero, List.set_cons_succ]; rfl)))
  | (with_reducible refine i_op ?_)
  | (with_reducible refine i_ifS ?_)
  | (with_reducible refine i_for ?_)
  | (with_reducible refine i_test ?_)
  | (with_reducible refine i_B ?_)
  | (with_reducible refine i_exbl ?_)
  | (with_reducible refine i_exint ?_)
  | (with_reducible refine i_cb ?_)
  | (with_reducible refine i_nil ?_)
  | (with_reducible refine i_cons ?_)
  | (with_reducible refine i_ret ?_)
  | (with_reducible refine i_sl ?_)
  | (with_reducible refine i_nopart ?_)
  | (with_reducible refine i_part ?_)
  | (with_reducible refine i_add_int ?_)
  | (with_reducible refine i_sub ?_)
  | (with_reducible refine i_lt ?_)
  | ((with_reducible refine' i_mod ?h1 ?_); (case h1 => walk_at "o"))
  | ((with_reducible refine' i_fdiv ?h1 ?_); (case h1 => (refine cdiv_small ?_ ?_ <;> walk_at "o")))
  | ((with_reducible refine' i_sl_to ?h1 ?h2 ?_); (case h1 => walk_at "o"); (case h2 => walk_at "o"))
  | ((with_reducible refine' i_sl_from ?h1 ?h2 ?_); (case h1 => walk_at "o"); (case h2 => walk_at "o"))
  | ((with_reducible refine' i_add_str ?h1 ?_); (case h1 => walk_at "o"))
  | ((with_reducible refine' i_mul_int ?h1 ?_); (case h1 => first | (refine mul_small ?_ ?_ <;> walk_at "o") | (refine mul_smallR ?_ ?_ <;> walk_at "o")))
  | (with_reducible refine i_le ?_)
  | (with_reducible refine i_gt ?_)
  | (with_reducible refine i_ge ?_)
  | (with_reducible refine i_eq_int ?_)
  | (with_reducible refine i_eq_str ?_)
  | (with_reducible refine i_ne_int ?_)
  | (with_reducible refine i_ne_str ?_)
  | (with_reducible refine i_eq_bl ?_)
  | (with_reducible refine i_ne_bl ?_)
  | (with_reducible refine i_in_sg ?_)
  | (with_reducible refine i_notIn_sg ?_)
  | (with_reducible refine i_call ?_)
  | (with_reducible refine i_callS ?_)
  | (with_reducible refine i_sp1 ?_)
  | (with_reducible refine i_sp2 ?_)
  | (with_reducible refine i_sp3 ?_)
  | (with_reducible refine i_sp4 ?_)
  | (with_reducible refine i_sp1' ?_)
  | (with_reducible refine i_sp2' ?_)
  | (with_reducible refine i_sp3' ?_)
  | ((with_reducible refine' i_ix_lst ?h1 ?h2 ?_); (case h1 => walk_at "sq"); (case h2 => first | exact atI_nat rfl | rfl))
  | ((with_reducible refine' i_ix_tup ?h1 ?h2 ?_); (case h1 => walk_at "st"); (case h2 => first | exact atI_nat rfl | rfl))
  | (with_reducible refine i_gsub ?_)
  | (with_reducible refine i_par ?_)
  | (with_reducible refine i_lstRg1 ?_)
  | (with_reducible refine i_app ?_)
  | (with_reducible refine i_par2 ?_)
  | ((with_reducible refine' i_aug ?h1 ?_); (case h1 => rfl))
  | (with_reducible refine i_ipI ?_)
  | ((with_reducible refine' i_gtup2 ?h1 ?_); (case h1 => walk_at "st"))
  | (with_reducible refine i_int_bl ?_)
  | (with_reducible refine i_raise ?_)
  | (with_reducible refine i_mkE ?_)
  | (with_reducible refine i_ex1 ?_)
  | (with_reducible refine i_and ?_)
  | (with_reducible refine i_or ?_)
  | (with_reducible refine i_not ?_)
  | (with_reducible refine i_tt ?_)
  | (with_reducible refine i_ff ?_)
  | (with_reducible refine i_nott ?_)
  | (with_reducible refine i_notf ?_)
  | (with_reducible refine i_andV ?_)
  | (with_reducible refine i_orV ?_)
  | (with_reducible refine i_notV ?_)
  | (with_reducible refine i_ifE ?_)
  | (with_reducible refine i_tup ?_)
  | (with_reducible refine i_lst ?_)
  | (with_reducible refine i_un ?_)
  | (with_reducible refine i_neg ?_)
  | (with_reducible refine i_chain ?_)
  | (with_reducible refine i_next ?_)
  | (with_reducible refine i_retN ?_)
  | (with_reducible refine i_drop ?_)
  | (with_reducible refine i_int_int ?_)
  | (with_reducible refine i_abs ?_)
  | (with_reducible refine i_m1c ?_)
  | (with_reducible refine i_is_non ?_)
  | (with_reducible refine i_is_int ?_)
  | (with_reducible refine i_is_bl ?_)
  | (with_reducible refine i_isn_bl ?_)
  | (with_reducible refine i_is_str ?_)
  | (with_reducible refine i_is_ref ?_)
  | (with_reducible refine i_isn_non ?_)
  | (with_reducible refine i_isn_int ?_)
  | (with_reducible refine i_isn_str ?_)
  | (with_reducible refine i_isn_ref ?_)
  | (with_reducible refine i_len_str ?h1 ?_; (case h1 => walk_at "o"))
  | (with_reducible refine i_callD ?_)
  | (with_reducible refine i_spD2 ?_)
  | (with_reducible refine i_spM1 ?_)
  | (with_reducible refine i_spM2 ?_)
  | (with_reducible refine i_spM3 ?_)
  | (with_reducible refine i_spM4 ?_)
  | (with_reducible refine i_spM3d ?_)
  | (with_reducible refine i_tfld ?_)
  | (with_reducible refine i_sfld ?_)
  | (with_reducible refine i_meth ?_)
  | (with_reducible refine i_make ?_)
  | (with_reducible refine i_spl ?_)
  | (with_reducible refine i_mkE2 ?_)
  | (with_reducible refine i_ex2 ?_)
  | (with_reducible refine i_dget ?_)
  | (with_reducible refine i_tru ?_)
  | (with_reducible refine i_dput ?_)
  | (with_reducible refine i_dnotin ?_)
  | (with_reducible refine i_din ?_)
  | (with_reducible refine i_rev ?_)
  | (with_reducible refine i_isi_int_int ?_) | (with_reducible refine i_isi_int_bool ?_) | (with_reducible refine i_isi_int_str ?_) | (with_reducible refine i_isi_int_tuple ?_) | (with_reducible refine i_isi_int_list ?_)
  | (with_reducible refine i_isi_bl_int ?_) | (with_reducible refine i_isi_bl_bool ?_) | (with_reducible refine i_isi_bl_str ?_) | (with_reducible refine i_isi_bl_tuple ?_) | (with_reducible refine i_isi_bl_list ?_)
  | (with_reducible refine i_isi_str_int ?_) | (with_reducible refine i_isi_str_bool ?_) | (with_reducible refine i_isi_str_str ?_) | (with_reducible refine i_isi_str_tuple ?_) | (with_reducible refine i_isi_str_list ?_)
  | (with_reducible refine i_isi_non_int ?_) | (with_reducible refine i_isi_non_bool ?_) | (with_reducible refine i_isi_non_str ?_) | (with_reducible refine i_isi_non_tuple ?_) | (with_reducible refine i_isi_non_list ?_))
local macro_rules | `(tactic| walk_at "go") => `(tactic| (repeat' (walk_at "s")))
local macro_rules | `(tactic| walk_at "n") => `(tactic| simp only [wipe, List.map_cons, List.map_nil, List.set_cons_zero, List.set_cons_succ])
/-! ### asked what is refused -/
theorem wr_rnd (d : PyData) : wrD 24 d = rndD d := by
  cases d with
  | str x =>
    show wrL 24 x.cps.toList = rndL x.cps.toList
    unfold wrL rndL
    by_cases h : 1 ≤ x.cps.toList.length ∧ x.cps.toList.length ≤ 24
    · rw [if_pos h, if_pos ⟨h.1, by omega⟩]
    · rw [if_neg h, if_neg (by omega)]
  | _ => rfl
theorem firstBad_lt {l : List Nat} {n : Nat} (h : firstBad l = some n) : n < l.length := by
  unfold firstBad at h
  exact (List.findIdx?_eq_some_iff_getElem.mp h).1
theorem rnd_bd {d : PyData} {n : Int} (h : rndD d = some n) : n.natAbs < 10 ^ 40 := by
  have key : n.natAbs < 100 := by
    cases d with
    | str x =>
      have h : rndL x.cps.toList = some n := h
      unfold rndL at h
      split at h
      · rename_i e
        obtain ⟨k, hk, rfl⟩ := Option.map_eq_some_iff.mp h
        have := firstBad_lt hk
        omega
      · cases h; decide
    | _ => cases h; decide
  exact Nat.lt_trans key (by decide)
theorem sgBad_lt : ∀ {ds : List PyData} {used : List (List Nat)} {i n : Nat}, sgBad used i ds = some n → n < i + ds.length
  | [], _, _, _, h => by cases h
  | d :: r, used, i, n, h => by
    have h' : (if isSigD d && !decide (sgKey d ∈ used) then sgBad (sgKey d :: used) (i + 1) r else some i) = some n := h
    split at h'
    · have := sgBad_lt h'
      rw [List.length_cons]; omega
    · cases h'
      rw [List.length_cons]; omega
theorem sgs_bd {d : PyData} {n : Int} (h : sgsD d = some n) : n.natAbs < 10 ^ 40 := by
  have key : n.natAbs < 100 := by
    cases d with
    | tuple ds =>
      have h : (if ds.length ≤ 4 then (sgBad [] 0 ds).map fun n : Nat => (n : Int) else some (-1)) = some n := h
      split at h
      · obtain ⟨k, hk, rfl⟩ := Option.map_eq_some_iff.mp h
        have := sgBad_lt hk
        omega
      · cases h; decide
    | _ => cases h; decide
  exact Nat.lt_trans key (by decide)
structure ResD (m : Nat) (d : PyData) : Prop where
  rp : Rp m d
  dep : d.depth ≤ 3
  nd : d.hasDict = false
theorem res_pair {l m : List Nat} {n : Nat} (hl : l.length ≤ n) (hc : ∀ c ∈ l, c < 16 ^ 8) {e : PyData} (he : Rp n e) (h0 : e.depth = 0) (h1 : e.hasDict = false) : ResD ((n + 1) * 2) (.list [dS l, e]) := by
  refine ⟨(Rp.list (m := n) (ds := [dS l, e]) fun d hd => ?_).mono (Nat.le_refl _), ?_, ?_⟩
  · rcases List.mem_cons.mp hd with rfl | hd
    · exact Rp.str hl hc
    · rw [List.mem_singleton.mp hd]; exact he
  · have := dep_all (n := 0) (ds := [dS l, e]) fun d hd => by
      rcases List.mem_cons.mp hd with rfl | hd
      · exact Nat.le_refl _
      · rw [List.mem_singleton.mp hd, h0]; exact Nat.le_refl _
    show PyData.depthAll _ + 1 ≤ 3
    omega
  · exact nd_all (ds := [dS l, e]) fun d hd => by
      rcases List.mem_cons.mp hd with rfl | hd
      · rfl
      · rw [List.mem_singleton.mp hd]; exact h1
theorem due_res (d1 d2 : PyData) : ResD 100 (dueD (rndD d1) (sgsD d2)) := by
  cases e1 : rndD d1 with
  | some n =>
    have := res_pair (l := cRound) (m := []) (n := 10) (by decide) (by decide) (e := .int n) (Rp.int (rnd_bd e1)) rfl rfl
    exact ⟨this.rp.mono (by decide), this.dep, this.nd⟩
  | none =>
  cases e2 : sgsD d2 with
  | some n =>
    have := res_pair (l := cSignal) (m := []) (n := 10) (by decide) (by decide) (e := .int n) (Rp.int (sgs_bd e2)) rfl rfl
    exact ⟨this.rp.mono (by decide), this.dep, this.nd⟩
  | none => exact ⟨rp_of (by decide +kernel), by decide +kernel, rfl⟩
section
variable {P : Program} {w : World} {K : PySem.W.Frag} {mg : Str → Option Value} {base : Heap} {C_GlimError C_BadRow C_BadRound C_BadSignal C_BadMessage C_Signals C_dt_Signals___init__ : Addr}
def p_L_refused (K : PySem.W.Frag) : P3 := fun x y z H Q _ => ∃ H0 d pl b xs ps, x = .ref d.a ∧ y = S pl ∧ z = .ref b ∧ Dr K d H0 H ∧ GoodR pl 24 ∧ H0 b = some (.lst xs) ∧ Prs H0 xs ps ∧ GoodT ps ∧ ∀ H', Q (.bl true) H'
theorem ok_L_is_refused_well (T : Txt K mg C_GlimError C_BadRow C_BadRound C_BadSignal C_BadMessage C_Signals C_dt_Signals___init__) : GOK P w K mg base CX0 10 "_law_is_refused_well" ["_law_draw_here", "_law_plain", "_law_pairs"] (sp3  (p_L_refused K)) := by
  refine GOK.mk (k := 9) T.d_L_is_refused_well sc_L_is_refused_well len3 fun f cdv A outer s H vs Q E hgu hr h => ?_
  obtain ⟨x, y, z, rfl, h⟩ := h
  refine ⟨_, (pss_cons (ps_set (i := 3) sc_L_is_refused_well.nd rfl (Or.inl rfl) (pv 2)) (pss_cons (ps_set (i := 4) sc_L_is_refused_well.nd rfl (Or.inl rfl) (pe_f (ok_L_pick (K := K) T) (hr.mono (by decide)) pass0 (pa_cons (pv 0) (pa_cons pe_int pa_nil)))) (Evl.pss_cut (ps_if (pt_cmpR (opNe K hr.units) (pv 4) pe_int (nomark _)) (pss_one (ps_set (i := 3) sc_L_is_refused_well.nd rfl (Or.inl rfl) (pe_f (ok_L_odd_signals (K := K) T) (hr.mono (by decide)) pass0 (pa_cons (pv 0) (pa_cons (pv 2) pa_nil))))) pss_nil) (Evl.pss_cut (ps_if (pt_cmpR op_ltP (pv 4) pe_int (nomark _)) (pss_one (ps_set (i := 1) sc_L_is_refused_well.nd rfl (Or.inl rfl) (pe_f (ok_L_odd_round (K := K) T) (hr.mono (by decide)) pass0 (pa_cons (pv 0) pa_nil)))) pss_nil) (pss_cons (ps_set (i := 5) sc_L_is_refused_well.nd rfl (Or.inl rfl) (pe_lst (pa_cons (pe_S [109, 97, 100, 101]) pa_nil))) (Evl.pss_cut (ps_if (pt_cmpR op_isNotP (pe_f (ok_L_wrong_sign (K := K) T) (hr.mono (by decide)) pass0 (pa_cons (pv 1) (pa_cons pe_int pa_nil))) pe_non (nomark _)) (pss_one (ps_set (i := 5) sc_L_is_refused_well.nd rfl (Or.inl rfl) (pe_lst (pa_cons (pe_S [114, 111, 117, 110, 100]) (pa_cons (pe_f (ok_L_wrong_sign (K := K) T) (hr.mono (by decide)) pass0 (pa_cons (pv 1) (pa_cons pe_int pa_nil))) pa_nil))))) (pss_one (ps_if (pt_cmpR op_isNotP (pe_f (ok_L_wrong_signal (K := K) T) (hr.mono (by decide)) pass0 (pa_cons (pv 3) pa_nil)) pe_non (nomark _)) (pss_one (ps_set (i := 5) sc_L_is_refused_well.nd rfl (Or.inl rfl) (pe_lst (pa_cons (pe_S [115, 105, 103, 110, 97, 108]) (pa_cons (pe_f (ok_L_wrong_signal (K := K) T) (hr.mono (by decide)) pass0 (pa_cons (pv 3) pa_nil)) pa_nil))))) pss_nil))) (pss_cons (ps_set (i := 6) sc_L_is_refused_well.nd rfl (Or.inl rfl) (pe_callB (Fg.cReprB K hgu hr.units) (by rfl) T.b_repr (by decide +kernel) (pa_cons (pv 3) pa_nil))) (pss_one (ps_ret (pe_and (pe_cmpR (opEq K hr.units) (pe_callB (Fg.cReprA K hgu hr.units) (by rfl) T.b_repr (by decide +kernel) (pa_cons (pe_f (ok_L_made (K := K) T) (hr.mono (by decide)) pass0 (pa_cons (pv 1) (pa_cons (pv 3) pa_nil))) pa_nil)) (pe_callB (Fg.cReprA K hgu hr.units) (by rfl) T.b_repr (by decide +kernel) (pa_cons (pv 5) pa_nil)) (nomark _)) (pe_one (pe_cmpR (opEq K hr.units) (pe_callB (Fg.cReprB K hgu hr.units) (by rfl) T.b_repr (by decide +kernel) (pa_cons (pv 3) pa_nil)) (pv 6) (nomark _))))))))))))), ?_⟩
  show (_ : TS) { nx := fun _ H' => Q .non H', rt := Q } [some x, some y, some z, none, none, none, none] H
  obtain ⟨H0, d, pl, b, xs, ps, rfl, rfl, rfl, dr, gr, hb, pr, g, q⟩ := h
  have lp := pr.len
  have gl := g.ln
  walk_at "go"
  refine ⟨_, d, 4, rfl, rfl, dr, by decide, fun kd G1 dr1 b1 => ?_⟩
  walk_at "go"
  refine i_cut (fun σ G => ∃ A v e, σ = [some (.ref d.a), some (S pl), some (.ref b), some v, some (.int kd), none, none] ∧ Same H0 A ∧ Dr K d A G ∧ At A v e ∧ OddE e) ?_ ?_
  · walk_at "go"
    refine i_decN (fun c1 => ?_) (fun c1 => ?_)
    · walk_at "go"
      refine ⟨H0, d, b, xs, ps, rfl, rfl, dr1, hb, pr, g, fun A H' v e s1 dr2 av oe => ?_⟩
      walk_at "go"
      exact ⟨A, v, e, rfl, s1, dr2, av, oe⟩
    · walk_at "go"
      exact ⟨H0, _, _, rfl, Same.refl _, dr1, At.mkLst hb pr (by rw [List.length_map]; omega), odd_list (fun e he => by
        obtain ⟨p, hp, rfl⟩ := List.mem_map.mp he
        exact sig_pair (b := false) g hp) (by rw [List.length_map]; omega)⟩
  rintro σ G ⟨A, v, e, rfl, sA, dr2, av, oe⟩
  walk_at "go"
  refine i_cut (fun σ G => ∃ A w e1, σ = [some (.ref d.a), some w, some (.ref b), some v, some (.int kd), none, none] ∧ Dr K d A G ∧ At A v e ∧ At A w e1) ?_ ?_
  · walk_at "go"
    refine i_dec (fun c1 => ?_) (fun c1 => ?_)
    · walk_at "go"
      refine ⟨A, d, rfl, dr2, fun A2 H' w e1 s1 dr3 aw => ?_⟩
      walk_at "go"
      exact ⟨A2, w, e1, rfl, dr3, av.same s1, aw⟩
    · walk_at "go"
      exact ⟨A, _, _, rfl, dr2, av, .str pl (by have := gr.le; omega)⟩
  rintro σ G ⟨A2, w, e1, rfl, dr3, av3, aw⟩
  have av4 := av3.same dr3.1
  have aw4 := aw.same dr3.1
  walk_at "go"
  refine i_new (by show 1 ≤ 100000; omega) fun r nr => ?_
  have s5 := same_upd (o := HO.lst [S [109, 97, 100, 101]]) nr
  have hr5 : (upd G r (HO.lst [S [109, 97, 100, 101]])) r = some (HO.lst [S [109, 97, 100, 101]]) := upd_same
  generalize upd G r (HO.lst [S [109, 97, 100, 101]]) = G5 at *
  walk_at "go"
  refine i_cut (fun σ G' => ∃ r', σ = [some (.ref d.a), some w, some (.ref b), some v, some (.int kd), some r', none] ∧ Same G G' ∧ At G' r' (dueD (rndD e1) (sgsD (deepD e)))) ?_ ?_
  · walk_at "go"
    refine ⟨e1, 24, aw4.same s5, rfl, fun G6 s6 => ?_⟩
    rw [wr_rnd]
    cases er : rndD e1 with
    | some n =>
      rw [show iV (some n) = V.int n from rfl]
      walk_at "go"
      refine ⟨e1, 24, (aw4.same s5).same s6, rfl, fun G7 s7 => ?_⟩
      rw [wr_rnd, er]
      rw [show iV (some n) = V.int n from rfl]
      walk_at "go"
      refine i_new (by show 2 ≤ 100000; omega) fun r2 nr2 => ?_
      walk_at "go"
      exact ⟨_, rfl, ((s5.trans s6).trans s7).trans (same_upd nr2), .lst upd_same (by decide : 2 ≤ 10000) (.cons (.str _ (by decide)) (.cons (.int _) .nil))⟩
    | none =>
      rw [show iV none = V.non from rfl]
      walk_at "go"
      refine ⟨e, (av4.same s5).same s6, fun G7 s7 => ?_⟩
      cases es : sgsD (deepD e) with
      | some n =>
        rw [show iV (some n) = V.int n from rfl]
        walk_at "go"
        refine ⟨e, ((av4.same s5).same s6).same s7, fun G8 s8 => ?_⟩
        rw [es]
        rw [show iV (some n) = V.int n from rfl]
        walk_at "go"
        refine i_new (by show 2 ≤ 100000; omega) fun r2 nr2 => ?_
        walk_at "go"
        exact ⟨_, rfl, (((s5.trans s6).trans s7).trans s8).trans (same_upd nr2), .lst upd_same (by decide : 2 ≤ 10000) (.cons (.str _ (by decide)) (.cons (.int _) .nil))⟩
      | none =>
        rw [show iV none = V.non from rfl]
        walk_at "go"
        exact ⟨_, rfl, (s5.trans s6).trans s7, .lst (s7 _ _ (s6 _ _ hr5)) (by decide : 1 ≤ 10000) (.cons (.str _ (by decide)) .nil)⟩
  rintro σ G6 ⟨r', rfl, s6, ar⟩
  have av6 := av4.same s6
  have aw6 := aw4.same s6
  have od := oe.dep
  walk_at "go"
  refine i_reprB av6 oe.rp (by decide) oe.fl (by omega) ?_
  walk_at "go"
  refine ⟨e1, e, aw6, av6, oe.dep, fun G7 r2 s7 ar2 => ?_⟩
  have rs := due_res e1 (deepD e)
  have rd := rs.dep
  generalize dueD (rndD e1) (sgsD (deepD e)) = dd at *
  walk_at "go"
  refine i_reprA ar2 rs.rp (by decide) rs.nd (by omega) ?_
  walk_at "go"
  refine i_reprA (ar.same s7) rs.rp (by decide) rs.nd (by omega) ?_
  refine i_eq_same ?_
  walk_at "go"
  refine i_reprB (av6.same s7) oe.rp (by decide) oe.fl (by omega) ?_
  walk_at "go"
  refine i_eq_same ?_
  exact q _
end
end K75
namespace K75
open PySem PySem.Spec PyProof.Rows L2 Fg
local macro_rules | `(tactic| walk_at "sq") => `(tactic| first
  | assumption
  | exact .inl (.inl (by assumption))
  | exact .inl (.inl upd_same))
local macro_rules | `(tactic| walk_at "st") => `(tactic| first
  | assumption
  | exact .inl (.inl (by assumption))
  | exact .inl (.inl upd_same))
local macro_rules | `(tactic| walk_at "o") => `(tactic| first
  | omega
  | assumption
  | (simp only [List.length_append, List.length_take, List.length_drop, List.length_cons, List.length_nil, List.length_singleton, List.length_map, List.length_range, Int.toNat_natCast] ; omega))
local macro_rules | `(tactic| walk_at "s") => `(tactic| first
  | (with_reducible refine i_seq ?_)
  | (with_reducible refine i_asg ?_)
  | ((with_reducible refine' i_var ?h1 ?_); (case h1 => rfl))
  | (with_reducible refine i_c ?_)
  | ((with_reducible refine' i_gname' ?h1 ?_); (case h1 => (simp only [List.set_cons_zero, List.set_cons_succ]; rfl)))
  | (with_reducible refine i_op ?_)
  | (with_reducible refine i_ifS ?_)
  | (with_reducible refine i_for ?_)
  | (with_reducible refine i_test ?_)
  | (with_reducible refine i_B ?_)
  | (with_reducible refine i_exbl ?_)
  | (with_reducible refine i_exint ?_)
  | (with_reducible refine i_cb ?_)
  | (with_reducible refine i_nil ?_)
  | (with_reducible refine i_cons ?_)
  | (with_reducible refine i_ret ?_)
  | (with_reducible refine i_sl ?_)
  | (with_reducible refine i_nopart ?_)
  | (with_reducible refine i_part ?_)
  | (with_reducible refine i_add_int ?_)
  | (with_reducible refine i_sub ?_)
  | (with_reducible refine i_lt ?_)
  | ((with_reducible refine' i_mod ?h1 ?_); (case h1 => walk_at "o"))
  | ((with_reducible refine' i_fdiv ?h1 ?_); (case h1 => (refine cdiv_small ?_ ?_ <;> walk_at "o")))
  | ((with_reducible refine' i_sl_to ?h1 ?h2 ?_); (case h1 => walk_at "o"); (case h2 => walk_at "o"))
  | ((with_reducible refine' i_sl_from ?h1 ?h2 ?_); (case h1 => walk_at "o"); (case h2 => walk_at "o"))
  | ((with_reducible refine' i_add_str ?h1 ?_); (case h1 => walk_at "o"))
  | ((with_reducible refine' i_mul_int ?h1 ?_); (case h1 => first | (refine mul_small ?_ ?_ <;> walk_at "o") | (refine mul_smallR ?_ ?_ <;> walk_at "o")))
  | (with_reducible refine i_le ?_)
  | (with_reducible refine i_gt ?_)
  | (with_reducible refine i_ge ?_)
  | (with_reducible refine i_eq_int ?_)
  | (with_reducible refine i_eq_str ?_)
  | (with_reducible refine i_ne_int ?_)
  | (with_reducible refine i_ne_str ?_)
  | (with_reducible refine i_eq_bl ?_)
  | (with_reducible refine i_ne_bl ?_)
  | (with_reducible refine i_in_sg ?_)
  | (with_reducible refine i_notIn_sg ?_)
  | (with_reducible refine i_call ?_)
  | (with_reducible refine i_callS ?_)
  | (with_reducible refine i_sp1 ?_)
  | (with_reducible refine i_sp2 ?_)
  | (with_reducible refine i_sp3 ?_)
  | (with_reducible refine i_sp4 ?_)
  | (with_reducible refine i_sp1' ?_)
  | (with_reducible refine i_sp2' ?_)
  | (with_reducible refine i_sp3' ?_)
  | ((with_reducible refine' i_ix_lst ?h1 ?h2 ?_); (case h1 => walk_at "sq"); (case h2 => first | exact atI_nat rfl | rfl))
  | ((with_reducible refine' i_ix_tup ?h1 ?h2 ?_); (case h1 => walk_at "st"); (case h2 => first | exact atI_nat rfl | rfl))
  | (with_reducible refine i_gsub ?_)
  | (with_reducible refine i_par ?_)
  | (with_reducible refine i_lstRg1 ?_)
  | (with_reducible refine i_app ?_)
  | (with_reducible refine i_par2 ?_)
  | ((with_reducible refine' i_aug ?h1 ?_); (case h1 => rfl))
  | (with_reducible refine i_ipI ?_)
  | ((with_reducible refine' i_gtup2 ?h1 ?_); (case h1 => walk_at "st"))
  | (with_reducible refine i_int_bl ?_)
  | (with_reducible refine i_raise ?_)
  | (with_reducible refine i_mkE ?_)
  | (with_reducible refine i_ex1 ?_)
  | (with_reducible refine i_and ?_)
  | (with_reducible refine i_or ?_)
  | (with_reducible refine i_not ?_)
  | (with_reducible refine i_tt ?_)
  | (with_reducible refine i_ff ?_)
  | (with_reducible refine i_nott ?_)
  | (with_reducible refine i_notf ?_)
  | (with_reducible refine i_andV ?_)
  | (with_reducible refine i_orV ?_)
  | (with_reducible refine i_notV ?_)
  | (with_reducible refine i_ifE ?_)
  | (with_reducible refine i_tup ?_)
  | (with_reducible refine i_lst ?_)
  | (with_reducible refine i_un ?_)
  | (with_reducible refine i_neg ?_)
  | (with_reducible refine i_chain ?_)
  | (with_reducible refine i_next ?_)
  | (with_reducible refine i_retN ?_)
  | (with_reducible refine i_drop ?_)
  | (with_reducible refine i_int_int ?_)
  | (with_reducible refine i_abs ?_)
  | (with_reducible refine i_m1c ?_)
  | (with_reducible refine i_is_non ?_)
  | (with_reducible refine i_is_int ?_)
  | (with_reducible refine i_is_bl ?_)
  | (with_reducible refine i_isn_bl ?_)
  | (with_reducible refine i_is_str ?_)
  | (with_reducible refine i_is_ref ?_)
  | (with_reducible refine i_isn_non ?_)
  | (with_reducible refine i_isn_int ?_)
  | (with_reducible refine i_isn_str ?_)
  | (with_reducible refine i_isn_ref ?_)
  | (with_reducible refine i_len_str ?h1 ?_; (case h1 => walk_at "o"))
  | (with_reducible refine i_callD ?_)
  | (with_reducible refine i_spD2 ?_)
  | (with_reducible refine i_spM1 ?_)
  | (with_reducible refine i_spM2 ?_)
  | (with_reducible refine i_spM3 ?_)
  | (with_reducible refine i_spM4 ?_)
  | (with_reducible refine i_spM3d ?_)
  | (with_reducible refine i_tfld ?_)
  | (with_reducible refine i_sfld ?_)
  | (with_reducible refine i_meth ?_)
  | (with_reducible refine i_make ?_)
  | (with_reducible refine i_spl ?_)
  | (with_reducible refine i_mkE2 ?_)
  | (with_reducible refine i_ex2 ?_)
  | (with_reducible refine i_dget ?_)
  | (with_reducible refine i_tru ?_)
  | (with_reducible refine i_dput ?_)
  | (with_reducible refine i_dnotin ?_)
  | (with_reducible refine i_din ?_)
  | (with_reducible refine i_rev ?_)
  | (with_reducible refine i_isi_int_int ?_) | (with_reducible refine i_isi_int_bool ?_) | (with_reducible refine i_isi_int_str ?_) | (with_reducible refine i_isi_int_tuple ?_) | (with_reducible refine i_isi_int_list ?_)
  | (with_reducible refine i_isi_bl_int ?_) | (with_reducible refine i_isi_bl_bool ?_) | (with_reducible refine i_isi_bl_str ?_) | (with_reducible refine i_isi_bl_tuple ?_) | (with_reducible refine i_isi_bl_list ?_)
  | (with_reducible refine i_isi_str_int ?_) | (with_reducible refine i_isi_str_bool ?_) | (with_reducible refine i_isi_str_str ?_) | (with_reducible refine i_isi_str_tuple ?_) | (with_reducible refine i_isi_str_list ?_)
  | (with_reducible refine i_isi_non_int ?_) | (with_reducible refine i_isi_non_bool ?_) | (with_reducible refine i_isi_non_str ?_) | (with_reducible refine i_isi_non_tuple ?_) | (with_reducible refine i_isi_non_list ?_))
local macro_rules | `(tactic| walk_at "go") => `(tactic| (repeat' (walk_at "s")))
local macro_rules | `(tactic| walk_at "n") => `(tactic| simp only [wipe, List.map_cons, List.map_nil, List.set_cons_zero, List.set_cons_succ])
/-! ### messages -/
section
variable {P : Program} {w : World} {K : PySem.W.Frag} {mg : Str → Option Value} {base : Heap} {C_GlimError C_BadRow C_BadRound C_BadSignal C_BadMessage C_Signals C_dt_Signals___init__ : Addr}
def p_L_message (K : PySem.W.Frag) : P2 := fun x y H Q _ => ∃ H0 d nm, x = .ref d.a ∧ y = S nm ∧ Dr K d H0 H ∧ 1 ≤ nm.length ∧ nm.length ≤ 5 ∧ ∀ A H' v e, Same H0 A → Dr K d A H' → At A v e → Q v H'
theorem ok_L_message (T : Txt K mg C_GlimError C_BadRow C_BadRound C_BadSignal C_BadMessage C_Signals C_dt_Signals___init__) : OK P w K mg base CX0 3 "_law_message" ["_law_draw_here", "_law_names"] (sp2  (p_L_message K)) := by
  refine OK.mk (k := 2) T.d_L_message sc_L_message len2 fun f cdv A outer s H vs Q E hr h => ?_
  obtain ⟨x, y, rfl, h⟩ := h
  refine ⟨_, (pss_cons (ps_set (i := 2) sc_L_message.nd rfl (Or.inl rfl) (peJoin K (pe_S []) (pe_lc (own := [("_law_turn", 3)]) (g := gName 3) (tt := tYes) (by rfl) sc_L_message.nd (pi_range1 rfl T.b_range (pa_cons (pe_f (ok_L_pick (K := K) T) (hr.mono (by decide)) pass0 (pa_cons (pv 0) (pa_cons pe_int pa_nil))) pa_nil)) (blkOk_by (own := [("_law_turn", 3)]) (N := ["_law_draw_here", "_law_names", "_law_message_here", "_law_turn", "_law_place", "_law_sign_here"]) (sc := (defScope s_L_message)) (by decide +kernel)) (fun _ _ _ _ _ => (pg_name (i := 3) sc_L_message.nd rfl (Or.inl rfl))) (fun _ _ _ _ _ => pts_nil) (fun _ _ _ _ _ => (pe_ix (ixK K) (pv 1) (pe_f (ok_L_pick (K := K) T) (hr.mono (by decide)) pass0 (pa_cons (pv 0) (pa_cons (pe_callB (cLen K) (by rfl) T.b_len (by decide +kernel) (pa_cons (pv 1) pa_nil)) pa_nil))) (fun _ _ => rfl)))))) (Evl.pss_cut (ps_if (pt_cmpR (opEq K hr.units) (pe_f (ok_L_pick (K := K) T) (hr.mono (by decide)) pass0 (pa_cons (pv 0) (pa_cons pe_int pa_nil))) pe_int (nomark _)) (pss_one (ps_set (i := 2) sc_L_message.nd rfl (Or.inl rfl) (pe_slice (slK K) (pe_op op_mulP (pe_op (opAdd K) (pv 2) (pv 1)) pe_int) po_none (po_some (pe_op (opAdd K) pe_int (pe_f (ok_L_pick (K := K) T) (hr.mono (by decide)) pass0 (pa_cons (pv 0) (pa_cons pe_int pa_nil)))))))) pss_nil) (pss_cons (ps_if (pt_cmpR (opEq K hr.units) (pe_f (ok_L_pick (K := K) T) (hr.mono (by decide)) pass0 (pa_cons (pv 0) (pa_cons pe_int pa_nil))) pe_int (nomark _)) (pss_one (ps_ret (pv 2))) pss_nil) (pss_cons (ps_if (pt_cmpR (opEq K hr.units) (pe_f (ok_L_pick (K := K) T) (hr.mono (by decide)) pass0 (pa_cons (pv 0) (pa_cons pe_int pa_nil))) pe_int (nomark _)) (pss_one (ps_ret (pe_ix (ixK K) (pe_lst (pa_cons pe_non (pa_cons pe_int (pa_cons (pe_lst (pa_cons (pe_S [48]) pa_nil)) (pa_cons (pe_tup (pa_cons (pe_S [48]) (pa_cons (pe_S [48]) pa_nil))) (pa_cons pe_bl pa_nil)))))) (pe_f (ok_L_pick (K := K) T) (hr.mono (by decide)) pass0 (pa_cons (pv 0) (pa_cons pe_int pa_nil))) (fun _ _ => rfl)))) pss_nil) (pss_cons (ps_for PassesOwn.never rfl (pi_range1 rfl T.b_range (pa_cons (pe_f (ok_L_pick (K := K) T) (hr.mono (by decide)) pass0 (pa_cons (pv 0) (pa_cons pe_int pa_nil))) pa_nil)) (pg_name (i := 3) sc_L_message.nd rfl (Or.inl rfl)) (pss_cons (ps_set (i := 4) sc_L_message.nd rfl (Or.inl rfl) (pe_f (ok_L_pick (K := K) T) (hr.mono (by decide)) pass0 (pa_cons (pv 0) (pa_cons (pe_op (opAdd K) (pe_callB (cLen K) (by rfl) T.b_len (by decide +kernel) (pa_cons (pv 2) pa_nil)) pe_int) pa_nil)))) (pss_cons (ps_set (i := 5) sc_L_message.nd rfl (Or.inl rfl) (pe_ix (ixK K) (pe_S [49, 32, 65, 46, 45, 126, 97, 122, 103, 119, 48]) (pe_f (ok_L_pick (K := K) T) (hr.mono (by decide)) pass0 (pa_cons (pv 0) (pa_cons pe_int pa_nil))) (fun _ _ => rfl))) (pss_one (ps_set (i := 2) sc_L_message.nd rfl (Or.inl rfl) (pe_op (opAdd K) (pe_op (opAdd K) (pe_slice (slK K) (pv 2) po_none (po_some (pv 4))) (pv 5)) (pe_slice (slK K) (pv 2) (po_some (pe_op (opAdd K) (pv 4) (pe_f (ok_L_pick (K := K) T) (hr.mono (by decide)) pass0 (pa_cons (pv 0) (pa_cons pe_int pa_nil))))) po_none))))))) (pss_one (ps_ret (pv 2)))))))), ?_⟩
  show (_ : TS) { nx := fun _ H' => Q .non H', rt := Q } [some x, some y, none, none, none, none] H
  obtain ⟨H0, d, nm, rfl, rfl, dr, n1, n5, q⟩ := h
  walk_at "go"
  refine c_rngD (K := K) (d := d) (H0 := H0) (fun z => 0 ≤ z ∧ z ≤ 10) (fun R k => ?_) (fun z h => by omega) (fun i acc => ∃ cs : List Nat, cs.length = i ∧ i ≤ 10 ∧ acc = cs.map fun c => S [c]) ⟨[], rfl, by omega, rfl⟩ ?_ (fun _ => rfl) ?_ ?_
  · walk_at "go"
    refine ⟨H0, d, 10, rfl, rfl, dr, by omega, fun n H1 dr1 b => ?_⟩
    exact k _ _ dr1 (by have := b.1; have := b.2.1; have := b.2.2; omega)
  · rintro i acc ⟨cs, h1, h2, rfl⟩
    rw [List.length_map]; omega
  · rintro z i acc Hk H2 hz hi ⟨cs, h1, h2, rfl⟩ dr2 QV k
    show (_ : TE) [some (.ref d.a), some (S nm), none, some (.int (i : Int)), none, none] H2 QV
    walk_at "go"
    refine ⟨Hk, d, _, rfl, rfl, dr2, by omega, fun n H3 dr3 bn => ?_⟩
    have b0 := bn.1
    have b1 : n.toNat < nm.length := by have := bn.2.1; have := bn.2.2; omega
    refine i_ix_str (by omega) b0 (List.getElem?_eq_getElem b1) ?_
    exact k _ _ dr3 ⟨cs ++ [nm[n.toNat]], by rw [List.length_append, h1]; rfl, by omega, by rw [List.map_append]; rfl⟩
  · rintro z Dl H3 acc hz n0 ⟨cs, h1, h2, rfl⟩ dr3
    walk_at "go"
    refine i_join1 (.inl (.inl (dr3.old upd_same))) (by omega) ?_
    have dr4 := dr3.less dr.cells n0
    clear dr3 dr
    walk_at "go"
    refine i_cut (fun σ G => ∃ m, σ = [some (.ref d.a), some (S nm), some (S m), none, none, none] ∧ m.length ≤ 200 ∧ Dr K d H0 G) ?_ ?_
    · walk_at "go"
      refine ⟨H0, d, 4, rfl, rfl, dr4, by decide, fun n G1 dr5 bn => ?_⟩
      walk_at "go"
      refine i_dec (fun c1 => ?_) (fun c1 => ?_)
      · walk_at "go"
        have hlen : (List.replicate 102 (cs ++ nm)).flatten.length = 102 * (cs ++ nm).length := repl_len 102 (cs ++ nm)
        rw [List.length_append] at hlen
        refine i_mul_strI (l := cs ++ nm) (k := 102) (by decide) ⟨by show (cs ++ nm).length * 102 ≤ 100000; rw [List.length_append]; omega, by decide⟩ ?_
        rw [show (102 : Int).toNat = 102 from rfl]
        generalize (List.replicate 102 (cs ++ nm)).flatten = rr at *
        walk_at "go"
        refine ⟨H0, d, 4, rfl, rfl, dr5, by decide, fun n2 G2 dr6 bn2 => ?_⟩
        obtain ⟨j, rfl⟩ : ∃ j : Nat, n2 = (j : Int) := ⟨n2.toNat, by have := bn2.1; omega⟩
        have hj := bn2.2.1 (by decide)
        refine i_add_int ?_
        rw [show (99 : Int) + (j : Int) = ((99 + j : Nat) : Int) by omega]
        walk_at "go"
        exact ⟨_, rfl, by rw [List.length_take]; omega, dr6⟩
      · walk_at "go"
        exact ⟨cs, rfl, by omega, dr5⟩
    rintro σ G ⟨m, rfl, lm, dr⟩
    walk_at "go"
    refine ⟨H0, d, 2, rfl, rfl, dr, by decide, fun n G1 dr1 bn => ?_⟩
    walk_at "go"
    refine i_dec (fun c1 => ?_) (fun c1 => ?_)
    · walk_at "go"
      exact q H0 G1 _ _ (Same.refl _) dr1 (.str m (by omega))
    walk_at "go"
    refine ⟨H0, d, 8, rfl, rfl, dr1, by decide, fun n2 G2 dr2 bn2 => ?_⟩
    walk_at "go"
    refine i_dec (fun c2 => ?_) (fun c2 => ?_)
    · walk_at "go"
      refine i_new (by show 1 ≤ 100000; omega) fun p1 np1 => ?_
      obtain ⟨A1, s1, e1, d1⟩ := dr2.step (HO.lst [S [48]]) np1
      generalize upd G2 p1 (HO.lst [S [48]]) = G3 at *
      walk_at "go"
      refine i_new (by show 2 ≤ 100000; omega) fun p2 np2 => ?_
      obtain ⟨A2, s2, e2, d2⟩ := d1.step (HO.tup [S [48], S [48]]) np2
      generalize upd G3 p2 (HO.tup [S [48], S [48]]) = G4 at *
      walk_at "go"
      refine i_new (by show 5 ≤ 100000; omega) fun p3 np3 => ?_
      obtain ⟨A3, s3, e3, d3⟩ := d2.step (HO.lst [.non, .int 7, .ref p1, .ref p2, .bl true]) np3
      generalize upd G4 p3 (HO.lst [.non, .int 7, .ref p1, .ref p2, .bl true]) = G5 at *
      walk_at "go"
      refine ⟨_, d, 5, rfl, rfl, d3, by decide, fun n3 G6 dr4 bn3 => ?_⟩
      obtain ⟨v, hv, hv'⟩ := pick_in (xs := [.non, .int 7, .ref p1, .ref p2, .bl true]) bn3 (by show 2 ≤ 5; decide)
      have al : AtAll A3 [.non, .int 7, .ref p1, .ref p2, .bl true] [.none, .int 7, .list [dS [48]], .tuple [dS [48], dS [48]], .bool true] := .cons .non (.cons (.int _) (.cons (.lst (s3 _ _ (s2 _ _ e1)) (by decide : 1 ≤ 10000) (.cons (.str _ (by decide)) .nil)) (.cons (.tup (s3 _ _ e2) (by decide : 2 ≤ 10000) (.cons (.str _ (by decide)) (.cons (.str _ (by decide)) .nil))) (.cons (.bl _) .nil))))
      obtain ⟨e, he, ae⟩ := al.get hv'
      refine i_ix_lst (.inl (.inl (dr4.old e3))) hv ?_
      exact q A3 G6 v e (s1.trans (s2.trans s3)) dr4 ae
    walk_at "go"
    refine i_forR ?_
    walk_at "go"
    refine ⟨_, d, 3, rfl, rfl, dr2, by decide, fun t G3 dr3 bt => ?_⟩
    have t0 := bt.1
    have t1 := bt.2.1 (by decide)
    refine i_rngD (by omega) (by omega) (fun i σ' H' => ∃ (m : List Nat) (v3 v4 v5 : Option V), σ' = [some (.ref d.a), some (S nm), some (S m), v3, v4, v5] ∧ m.length ≤ 200 + i ∧ Dr K d H0 H') ⟨m, _, _, _, rfl, by omega, dr3⟩ ?_ ?_
    · clear dr dr1 dr2 dr3 lm
      rintro i σ' H' hi ⟨m, v3, v4, v5, rfl, lm, dr⟩
      walk_at "go"
      refine ⟨_, d, _, rfl, rfl, dr, by omega, fun n G4 dr1 bn => ?_⟩
      obtain ⟨k, rfl⟩ : ∃ k : Nat, n = (k : Int) := ⟨n.toNat, by have := bn.1; omega⟩
      have hk : k ≤ m.length := by have := bn.2.1; have := bn.2.2; omega
      walk_at "go"
      refine ⟨_, d, 11, rfl, rfl, dr1, by decide, fun n2 G5 dr2 bn2 => ?_⟩
      have c0 := bn2.1
      have c1 := bn2.2.1 (by decide)
      refine i_ix_str (by decide) c0 (List.getElem?_eq_getElem (show n2.toNat < 11 by omega)) ?_
      walk_at "go"
      refine ⟨_, d, 2, rfl, rfl, dr2, by decide, fun n3 G6 dr3 bn3 => ?_⟩
      obtain ⟨j, rfl⟩ : ∃ j : Nat, n3 = (j : Int) := ⟨n3.toNat, by have := bn3.1; omega⟩
      walk_at "go"
      exact ⟨_, _, _, _, rfl, by simp only [List.length_append, List.length_take, List.length_drop, List.length_singleton]; omega, dr3⟩
    · rintro σ' H' ⟨m, v3, v4, v5, rfl, lm, dr⟩
      walk_at "go"
      exact q H0 H' _ _ (Same.refl _) dr (.str m (by omega))
abbrev cBad : List Nat := [98, 97, 100]
abbrev cRow : List Nat := [114, 111, 119]
def resM : Int ⊕ List Nat → PyData
  | .inl n => .list [dS cBad, .int n]
  | .inr l => .list [dS cRow, dS l]
theorem all_step {pl : List Nat} {ps : Tb} {i : Nat} {p : Nat × List Nat} (g : GoodT ps) (hp : ps[i]? = some p) : all pl (ps.take (i + 1)) = all pl (ps.take i) ++ [p] ∧ (all pl (ps.take i)).lookup p.1 = none := by
  have tk : all pl (ps.take (i + 1)) = all pl (ps.take i) ++ [p] := by
    show (48, pl) :: ps.take (i + 1) = (48, pl) :: ps.take i ++ [p]
    rw [List.take_succ, hp]
    rfl
  refine ⟨tk, look_none ?_⟩
  have nd := all_nd (pl := pl) g
  have e0 : all pl ps = all pl (ps.take (i + 1)) ++ ps.drop (i + 1) := by
    show (48, pl) :: ps = (48, pl) :: ps.take (i + 1) ++ ps.drop (i + 1)
    rw [List.cons_append, List.take_append_drop]
  rw [e0, tk, List.map_append, List.map_append, List.nodup_append] at nd
  have n1 := nd.1
  rw [List.nodup_append] at n1
  exact fun z => n1.2.2 p.1 z p.1 (by simp) rfl
theorem rowOf_add {t : Tb} {l : List Nat} {c : Nat} {w : List Nat} (h : t.lookup c = some w) : rowOf t (l ++ [c]) = rowOf t l ++ w := by
  unfold rowOf
  rw [List.map_append, List.flatten_append, List.map_singleton, h]
  simp
theorem rowOf_len {pl : List Nat} {ps : Tb} (lp : pl.length ≤ 24) (g : GoodT ps) (l : List Nat) : (rowOf (all pl ps) l).length ≤ 24 * l.length := by
  have := row_len (t := all pl ps) (fun p hp => by
    rcases List.mem_cons.mp hp with rfl | hp
    · exact lp
    · have := g.lw p hp; omega) l
  unfold rowOf
  rw [List.length_flatten]
  exact this
def p_L_row_due : P3 := fun x y z H Q _ => ∃ pl b xs ps d, x = S pl ∧ y = .ref b ∧ H b = some (.lst xs) ∧ Prs H xs ps ∧ GoodT ps ∧ pl.length ≤ 24 ∧ At H z d ∧ ∀ H' v, Same H H' → At H' v (resM (calD (all pl ps) d)) → Q v H'
theorem ok_L_row_due (T : Txt K mg C_GlimError C_BadRow C_BadRound C_BadSignal C_BadMessage C_Signals C_dt_Signals___init__) : OK P w K mg base CX0 1 "_law_row_due" ["_law_plain", "_law_pairs", "_law_message_here"] (sp3  p_L_row_due) := by
  refine OK.mk (k := 0) T.d_L_row_due sc_L_row_due len3 fun f cdv A outer s H vs Q E hr h => ?_
  obtain ⟨x, y, z, rfl, h⟩ := h
  refine ⟨_, (pss_cons (ps_set (i := 3) sc_L_row_due.nd rfl (Or.inl rfl) (pe_disp (pps_cons (pe_S [48]) (pv 0) pps_nil) (by rfl) (by rfl) (fun z => by cases z) (by decide))) (pss_cons (ps_for PassesOwn.never rfl (piAny K (pv 1)) (pg_name (i := 4) sc_L_row_due.nd rfl (Or.inl rfl)) (pss_one (ps_dput (hu_of hr) (pv 3) (pe_ix (ixK K) (pv 4) pe_int (fun _ _ => rfl)) (pe_ix (ixK K) (pv 4) pe_int (fun _ _ => rfl)) rfl))) (pss_cons (ps_if (pw_or (pt_not (pt_val (pe_callB (cIsi K) (by rfl) T.b_isinstance (by decide +kernel) (pa_cons (pv 2) (pa_cons (pe_bltn (v := .ty "str") (by rfl) T.b_str (by decide +kernel) rfl) pa_nil))))) (pw_or1 (pt_cmpR op_gtP (pe_callB (cLen K) (by rfl) T.b_len (by decide +kernel) (pa_cons (pv 2) pa_nil)) pe_int (nomark _)))).pt (pss_one (ps_ret (pe_lst (pa_cons (pe_S [98, 97, 100]) (pa_cons (pe_un un_neg pe_int) pa_nil))))) pss_nil) (pss_cons (ps_set (i := 5) sc_L_row_due.nd rfl (Or.inl rfl) (pe_S [])) (pss_cons (ps_for PassesOwn.never rfl (pi_range1 rfl T.b_range (pa_cons (pe_callB (cLen K) (by rfl) T.b_len (by decide +kernel) (pa_cons (pv 2) pa_nil)) pa_nil)) (pg_name (i := 6) sc_L_row_due.nd rfl (Or.inl rfl)) (pss_cons (ps_if (pt_cmp (pc_dnotin (hu_of hr) (pe_ix (ixK K) (pv 2) (pv 6) (fun _ _ => rfl)) (pv 3))) (pss_one (ps_ret (pe_lst (pa_cons (pe_S [98, 97, 100]) (pa_cons (pv 6) pa_nil))))) pss_nil) (pss_one (ps_set (i := 5) sc_L_row_due.nd rfl (Or.inl rfl) (pe_op (opAdd K) (pv 5) (pe_dget (hu_of hr) (pv 3) (pe_ix (ixK K) (pv 2) (pv 6) (fun _ _ => rfl)) (fun _ _ => rfl))))))) (pss_one (ps_ret (pe_lst (pa_cons (pe_S [114, 111, 119]) (pa_cons (pv 5) pa_nil)))))))))), ?_⟩
  show (_ : TS) { nx := fun _ H' => Q .non H', rt := Q } [some x, some y, some z, none, none, none, none] H
  obtain ⟨pl, b, xs, ps, d, rfl, rfl, hb, pr, g, lp, hz, q⟩ := h
  have lx := pr.len
  have gl := g.ln
  walk_at "go"
  refine i_disp1K (l := [48]) (v := S pl) (tk := tC (S [48])) (tv := tVar 0) (σ := [some (S pl), some (V.ref b), some z, none, none, none, none]) (fun H R k => k) (fun H R k => by walk_at "go"; exact k) fun dd nd => ?_
  have s0 := same_upd (o := HO.dK [(kS [48], S pl)]) nd
  have hd0 : (upd H dd (HO.dK [(kS [48], S pl)])) dd = some (.dK [(kS [48], S pl)]) := upd_same
  generalize upd H dd (HO.dK [(kS [48], S pl)]) = H0 at *
  walk_at "go"
  refine i_forL (a := b) (xs := xs) (.inl (.inl (s0 _ _ hb))) (fun i σ G => ∃ v4, σ = [some (S pl), some (V.ref b), some z, some (V.ref dd), v4, none, none] ∧ Same H G ∧ G dd = some (.dK (tblK (all pl (ps.take i)))))
    ⟨none, rfl, s0, hd0⟩ (fun i σ' H' _ pv => ?_) ?_ ?_
  · obtain ⟨_, _, s1, _⟩ := pv
    exact .inl (.inl (s1 _ _ hb))
  · rintro i x σ' G hi ⟨v4, rfl, s1, hd1⟩
    obtain ⟨p, c, hp, rfl, hc⟩ := prs_get pr hi
    have hc1 := s1 _ _ hc
    obtain ⟨tk, nk⟩ := all_step (pl := pl) g hp
    walk_at "go"
    refine dk_put (l := [p.1]) (v := S p.2) hd1 (by
      unfold tblK
      rw [List.length_map]
      show (ps.take i).length + 1 ≤ 100000
      rw [List.length_take]
      omega) ?_
    refine ⟨_, rfl, Same.upd s1 nd, ?_⟩
    rw [upd_same, putK_new (by rw [tbl_val, nk]; rfl), tk]
    unfold tblK
    rw [List.map_append]
    rfl
  · rintro σ' G ⟨v4, rfl, s1, hd1⟩
    rw [List.take_of_length_le (by omega)] at hd1
    have bad : ∀ {G1 : Hp} {r : Addr} {n : Int}, Same G G1 → G1 r = none → calD (all pl ps) d = .inl n → Q (.ref r) (upd G1 r (.lst [S cBad, .int n])) := fun s2 nr e => by
      refine q _ _ ((s1.trans s2).trans (same_upd nr)) ?_
      rw [e]
      exact .lst upd_same (by decide : 2 ≤ 10000) (.cons (.str _ (by decide)) (.cons (.int _) .nil))
    have hz1 := hz.same s1
    walk_at "go"
    cases d
    case str zz =>
      obtain ⟨l, rfl, rfl, hl⟩ := hz1.strl
      have ec : calD (all pl ps) (dS l) = calL (all pl ps) l := rfl
      rw [ec] at q
      have bad : ∀ {G1 : Hp} {r : Addr} {n : Int}, Same G G1 → G1 r = none → calL (all pl ps) l = .inl n → Q (.ref r) (upd G1 r (.lst [S cBad, .int n])) := bad
      unfold calL at q bad
      walk_at "go"
      refine i_dec (fun c1 => ?_) (fun c1 => ?_)
      · walk_at "go"
        refine i_new (by show 2 ≤ 100000; omega) fun r nr => ?_
        exact bad (Same.refl _) nr (if_neg (by omega))
      rw [if_pos (by omega)] at q
      walk_at "go"
      refine i_forR ?_
      walk_at "go"
      refine i_rngD (by omega) (by omega) (fun i σ' G' => ∃ v4 v6, σ' = [some (S pl), some (V.ref b), some (S l), some (V.ref dd), v4, some (S (rowOf (all pl ps) (l.take i))), v6] ∧ G' = G ∧ ∀ k < i, ∀ c, l[k]? = some c → ((all pl ps).lookup c).isSome = true)
        ⟨_, _, rfl, rfl, by omega⟩ ?_ ?_
      · rintro i σ' G' hi ⟨v4, v6, rfl, rfl, hb'⟩
        have hlt : i < l.length := by omega
        have hc := List.getElem?_eq_getElem hlt
        generalize l[i] = c at hc
        walk_at "go"
        refine i_ix_str (by omega) (by omega) (by rw [Int.toNat_natCast]; exact hc) ?_
        walk_at "go"
        refine dk_ask (l := [c]) hd1 ?_
        rw [tbl_val]
        cases e : (all pl ps).lookup c with
        | none =>
          simp only [Option.map_none, Option.isSome_none]
          walk_at "go"
          refine i_new (by show 2 ≤ 100000; omega) fun r nr => ?_
          exact bad (Same.refl _) nr (by rw [if_pos (by omega), badPc_some hc e hb'])
        | some w =>
          simp only [Option.map_some, Option.isSome_some]
          walk_at "go"
          refine i_ix_str (by omega) (by omega) (by rw [Int.toNat_natCast]; exact hc) ?_
          walk_at "go"
          refine dk_get (l := [c]) (v := S w) hd1 (by rw [tbl_val, e]; rfl) ?_
          have ln := rowOf_len lp g (l.take i)
          rw [List.length_take] at ln
          have lw : w.length ≤ 24 := by
            rcases List.mem_cons.mp (look_mem e) with h | h
            · cases h; exact lp
            · have : w.length ≤ 12 := g.lw _ h
              omega
          refine i_add_str (by omega) ?_
          walk_at "go"
          refine ⟨_, _, by rw [List.take_succ, hc]; show _ = [_, _, _, _, _, some (S (rowOf _ (l.take i ++ [c]))), _]; rw [rowOf_add e], rfl, fun k hk c' hc' => ?_⟩
          rcases Nat.lt_or_ge k i with h | h
          · exact hb' k h c' hc'
          · have : k = i := by omega
            subst this
            rw [hc] at hc'
            cases hc'
            rw [e]; rfl
      · rintro σ' G' ⟨v4, v6, rfl, rfl, hb'⟩
        have nb : badPc (all pl ps) l = none := badPc_none fun c hc => by
          obtain ⟨k, hk⟩ := List.getElem?_of_mem hc
          exact hb' k (by have := (List.getElem?_eq_some_iff.mp hk).1; omega) c hk
        rw [nb] at q
        rw [List.take_of_length_le (by omega)]
        have ln := rowOf_len lp g l
        walk_at "go"
        refine i_new (by show 2 ≤ 100000; omega) fun r nr => ?_
        exact q _ _ (s1.trans (same_upd nr)) (.lst upd_same (by decide : 2 ≤ 10000) (.cons (.str _ (by decide)) (.cons (.str _ (by omega)) .nil)))
    all_goals
      refine i_isiStr false hz1 rfl ?_
      walk_at "go"
      refine i_new (by show 2 ≤ 100000; omega) fun r nr => ?_
      exact bad (Same.refl _) nr rfl
theorem cal_len {t : Tb} {d : PyData} {l : List Nat} (h : ∀ p ∈ t, p.2.length ≤ 24) (e : calD t d = .inr l) : l.length ≤ 2400 := by
  cases d with
  | str x =>
    have e : calL t x.cps.toList = .inr l := e
    unfold calL at e
    split at e
    · rename_i h1
      split at e
      · cases e
      · cases e
        have := row_len h x.cps.toList
        unfold rowOf
        rw [List.length_flatten]
        omega
    · cases e
  | _ => cases e
def p_L_row_told (C : Addr) : P2 := fun x y H Q _ => ∃ a pl ps d, x = .ref a ∧ Sg C H a pl ps ∧ At H y d ∧ ∀ H' v, Same H H' → At H' v (resM (calD (all pl ps) d)) → Q v H'
theorem ok_L_row_told (T : Txt K mg C_GlimError C_BadRow C_BadRound C_BadSignal C_BadMessage C_Signals C_dt_Signals___init__) : OK P w K mg base CX0 4 "_law_row_told" ["_law_signals", "_law_message_here"] (sp2  (p_L_row_told C_Signals)) := by
  refine OK.mk (k := 3) T.d_L_row_told sc_L_row_told len2 fun f cdv A outer s H vs Q E hr h => ?_
  obtain ⟨x, y, rfl, h⟩ := h
  refine ⟨_, (pss_cons (ps_try_as (i := 3) rfl rfl sc_L_row_told.nd rfl rfl ⟨rfl, by decide, Or.inl T.c_GlimError⟩ takes0 (fun W pn xe tk _ => (pss_one (ps_set (i := 2) sc_L_row_told.nd rfl (Or.inl rfl) (Fg.pe_callOwnS (pv 0) (ok_Signals___call__ (K := K) T) (hr.mono (by decide)) (fun σ => passAt tk σ) (pa_cons (pv 1) pa_nil))))) (fun a oe cls d pn hz hf => (pss_cons (ps_if (pw_and (pt_val (pe_callB (cIsX K hz hf) (by rfl) T.b_isinstance (by decide +kernel) (pa_cons (pv 3) (pa_cons (pe_gR _ T.c_BadMessage) pa_nil)))) (pw_and (pt_not (pt_val (pe_callB (cIsX K hz hf) (by rfl) T.b_isinstance (by decide +kernel) (pa_cons (pv 3) (pa_cons (pe_gR _ T.c_BadSignal) pa_nil))))) (pw_and1 (pt_not (pt_val (pe_callB (cIsX K hz hf) (by rfl) T.b_isinstance (by decide +kernel) (pa_cons (pv 3) (pa_cons (pe_gR _ T.c_BadRow) pa_nil)))))))).pt (pss_one (ps_ret (pe_lst (pa_cons (pe_S [98, 97, 100]) (pa_cons (pe_xf T.e_BadMessage.xf T.nf_BadMessage_number hz hf (pv 3)) pa_nil))))) pss_nil) (pss_one (ps_ret (pe_lst (pa_cons (pe_S [111, 116, 104, 101, 114]) pa_nil))))))) (pss_one (ps_ret (pe_lst (pa_cons (pe_S [114, 111, 119]) (pa_cons (pv 2) pa_nil)))))), ?_⟩
  show (_ : TS) { nx := fun _ H' => Q .non H', rt := Q } [some x, some y, none, none] H
  obtain ⟨a, pl, ps, d, rfl, sg, hy, q⟩ := h
  walk_at "go"
  refine i_callOwnS ?_
  walk_at "go"
  refine ⟨a, rfl, ?_⟩
  walk_at "go"
  have sg0 := sg
  obtain ⟨dx, t, d0, sg1⟩ := sg0
  refine ⟨⟨_, _, sg1.ob⟩, ?_⟩
  walk_at "go"
  refine ⟨a, pl, ps, d, rfl, sg, hy, ?_⟩
  cases e : calD (all pl ps) d with
  | inl n =>
    rw [e] at q
    intro dd H1 nd s1 hdd
    refine i_caught T.m_BadMessage_GlimError fun a2 na => ?_
    show (_ : TS) _ [some (.ref a), some y, none, some (.ref a2)] H1
    walk_at "go"
    refine i_isX hdd T.e_BadMessage (.own _) T.k_BadMessage_BadMessage ?_
    walk_at "go"
    refine i_isX hdd T.e_BadMessage (.own _) T.k_BadMessage_BadSignal ?_
    walk_at "go"
    refine i_isX hdd T.e_BadMessage (.own _) T.k_BadMessage_BadRow ?_
    walk_at "go"
    refine i_xf rfl hdd ?_
    walk_at "go"
    refine i_new (by show 2 ≤ 100000; omega) fun r nr => ?_
    exact q _ _ (s1.trans (same_upd nr)) (.lst upd_same (by decide : 2 ≤ 10000) (.cons (.str _ (by decide)) (.cons (.int _) .nil)))
  | inr l =>
    rw [e] at q
    intro H1 s1
    walk_at "go"
    refine i_new (by show 2 ≤ 100000; omega) fun r nr => ?_
    have ll := cal_len (fun p hp => by
      rcases List.mem_cons.mp hp with rfl | hp
      · exact sg1.lp
      · have := sg1.lw p hp; omega) e
    exact q _ _ (s1.trans (same_upd nr)) (.lst upd_same (by decide : 2 ≤ 10000) (.cons (.str _ (by decide)) (.cons (.str _ (by omega)) .nil)))
def p_L_told (C : Addr) : P3 := fun x y z H Q _ => ∃ a pl ps b xs, x = .ref a ∧ y = S pl ∧ z = .ref b ∧ Sg C H a pl ps ∧ GoodT ps ∧ Row pl ∧ H b = some (.lst xs) ∧ Prs H xs ps ∧ ∀ H', Same H H' → Q (.bl true) H'
theorem ok_L_is_told (T : Txt K mg C_GlimError C_BadRow C_BadRound C_BadSignal C_BadMessage C_Signals C_dt_Signals___init__) : GOK P w K mg base CX0 5 "_law_is_told" ["_law_signals", "_law_plain", "_law_pairs"] (sp3  (p_L_told C_Signals)) := by
  refine GOK.mk (k := 4) T.d_L_is_told sc_L_is_told len3 fun f cdv A outer s H vs Q E hgu hr h => ?_
  obtain ⟨x, y, z, rfl, h⟩ := h
  refine ⟨_, (pss_cons (ps_if (pw_or (pt_cmpR (opNe K hr.units) (pe_callB (Fg.cReprA K hgu hr.units) (by rfl) T.b_repr (by decide +kernel) (pa_cons (peFld K (pv 0)) pa_nil)) (pe_callB (Fg.cReprA K hgu hr.units) (by rfl) T.b_repr (by decide +kernel) (pa_cons (pv 1) pa_nil)) (nomark _)) (pw_or1 (pt_cmpR (opNe K hr.units) (pe_callB (Fg.cReprA K hgu hr.units) (by rfl) T.b_repr (by decide +kernel) (pa_cons (peFld K (pv 0)) pa_nil)) (pe_callB (Fg.cReprA K hgu hr.units) (by rfl) T.b_repr (by decide +kernel) (pa_cons (pe_callTy (cTup K) (by rfl) T.b_tuple (by decide +kernel) (pa_cons (pv 2) pa_nil)) pa_nil)) (nomark _)))).pt (pss_one (ps_ret pe_bl)) pss_nil) (pss_cons (ps_if (pw_or (pt_cmpR (opNe K hr.units) (pe_callB (Fg.call_lenO (ok_Signals___len__ (K := K) T) (hr.mono (by decide)) pass0) (by rfl) T.b_len (by decide +kernel) (pa_cons (pv 0) pa_nil)) (pe_callB (cLen K) (by rfl) T.b_len (by decide +kernel) (pa_cons (pv 2) pa_nil)) (nomark _)) (pw_or1 (pt_cmpR (opNe K hr.units) (pe_callB (Fg.cReprA K hgu hr.units) (by rfl) T.b_repr (by decide +kernel) (pa_cons (pe_callTy (Fg.cListO K (ok_Signals___iter__ (K := K) T) (ok_Signals___len__ (K := K) T) (hr.mono (by decide)) (hr.mono (by decide))) (by rfl) T.b_list (by decide +kernel) (pa_cons (pv 0) pa_nil)) pa_nil)) (pe_callB (Fg.cReprA K hgu hr.units) (by rfl) T.b_repr (by decide +kernel) (pa_cons (pv 2) pa_nil)) (nomark _)))).pt (pss_one (ps_ret pe_bl)) pss_nil) (pss_one (ps_ret (pe_cmpR (opEq K hr.units) (pe_callB (Fg.cReprA K hgu hr.units) (by rfl) T.b_repr (by decide +kernel) (pa_cons (Fg.pe_propO (pv 0) T.cl_Signals (ok_Signals_pieces (K := K) T) (hr.mono (by decide))) pa_nil)) (pe_callB (Fg.cReprA K hgu hr.units) (by rfl) T.b_repr (by decide +kernel) (pa_cons (pe_op (opAdd K) (pe_S [48]) (peJoin K (pe_S []) (pe_lc (own := [("_law_pair", 3)]) (g := gName 3) (tt := tYes) (by rfl) sc_L_is_told.nd (piAny K (pv 2)) (blkOk_by (own := [("_law_pair", 3)]) (N := ["_law_signals", "_law_plain", "_law_pairs", "_law_pair"]) (sc := (defScope s_L_is_told)) (by decide +kernel)) (fun _ _ _ _ _ => (pg_name (i := 3) sc_L_is_told.nd rfl (Or.inl rfl))) (fun _ _ _ _ _ => pts_nil) (fun _ _ _ _ _ => (pe_ix (ixK K) (pv 3) pe_int (fun _ _ => rfl)))))) pa_nil)) (nomark _)))))), ?_⟩
  show (_ : TS) { nx := fun _ H' => Q .non H', rt := Q } [some x, some y, some z, none] H
  obtain ⟨a, pl, ps, b, xs, rfl, rfl, rfl, sg, g, rp, hb, pr, q⟩ := h
  have sg0 := sg
  obtain ⟨dx, t, d, sg1⟩ := sg0
  walk_at "go"
  refine i_fld sg1.ob T.cl_Signals T.na_Signals_plain (SF_pl ..) ?_
  walk_at "go"
  have sgb : ∀ c ∈ SG, c < 16 ^ 8 := by decide
  have rpl : Rp 24 (dS pl) := Rp.str sg1.lp fun c hc => sgb c (rp c hc)
  have apl : ∀ G, At G (S pl) (dS pl) := fun G => .str pl (by have := sg1.lp; omega)
  refine i_reprA (apl _) rpl (by decide) rfl (show 0 ≤ 60 by decide) ?_
  walk_at "go"
  refine i_reprA (apl _) rpl (by decide) rfl (show 0 ≤ 60 by decide) ?_
  refine i_ne_same ?_
  walk_at "go"
  refine i_fld sg1.ob T.cl_Signals T.na_Signals_signals (SF_si ..) ?_
  walk_at "go"
  obtain ⟨e1, e2, e3⟩ := sm_tuple (sgLs_sm false g) (by rw [List.length_map]; exact g.ln)
  have lx := pr.len
  have gl := g.ln
  have rT : ∀ {G : Hp} {v : V} {Q : VK}, At G v (sgT ps) → Q (.str (sgT ps).shown) G → rReprA K [v] G Q := fun h k =>
    i_reprA (d := sgT ps) h (m := 200) e2 (by decide) e3 (by show (PyData.tuple (ps.map (sgL false))).depth ≤ 60; omega) k
  obtain ⟨f1, f2, f3⟩ := sm_list (sgLs_sm false g) (by rw [List.length_map]; exact g.ln)
  have rL : ∀ {G : Hp} {v : V} {Q : VK}, At G v (.list (ps.map sgP)) → Q (.str (PyData.list (ps.map sgP)).shown) G → rReprA K [v] G Q := fun h k =>
    i_reprA (d := .list (ps.map sgP)) h (m := 200) f2 (by decide) f3 (by show (PyData.list (ps.map (sgL false))).depth ≤ 60; omega) k
  have lT : (sgT ps).depth ≤ 60 := by show (PyData.tuple (ps.map (sgL false))).depth ≤ 60; omega
  refine rT sg1.sg ?_
  walk_at "go"
  refine i_tuple_lst (.inl (.inl hb)) fun tl nt => ?_
  have s1 := same_upd (o := HO.tup xs) nt
  have ht : At (upd H tl (HO.tup xs)) (.ref tl) (sgT ps) := .tup upd_same (by omega) (AtAll.same pr s1)
  generalize upd H tl (HO.tup xs) = H1 at *
  walk_at "go"
  refine rT ht ?_
  refine i_ne_same ?_
  walk_at "go"
  have sg2 := sg1.same s1
  obtain ⟨t', zs, et, hzs, _, alz⟩ := sg2.sg.tupled
  cases et
  have lz : zs.length = ps.length := Prs.len alz
  refine i_lenO sg2.ob ⟨_, rfl, a, dx, _, t, zs, rfl, sg2.ob, SF_si .., .inl (.inl hzs), zs.length, rfl, by omega, ?_⟩
  have hb1 := s1 _ _ hb
  walk_at "go"
  refine i_len_lst (.inl (.inl hb1)) ?_
  refine i_ne_int ?_
  rw [decide_eq_true (show (zs.length : Int) = (xs.length : Int) by omega)]
  walk_at "go"
  refine i_listO sg2.ob (SF_si ..) (.inl (.inl hzs)) (by omega) fun lq nq => ?_
  have s2 := same_upd (o := HO.lst zs) nq
  have hq : At (upd H1 lq (HO.lst zs)) (.ref lq) (.list (ps.map sgP)) := .lst upd_same (by omega) (AtAll.same alz s2)
  have hb2 := s2 _ _ hb1
  have pr2 : Prs (upd H1 lq (HO.lst zs)) xs ps := AtAll.same (AtAll.same pr s1) s2
  have sg3 := sg2.same s2
  generalize upd H1 lq (HO.lst zs) = H2 at *
  walk_at "go"
  refine rL hq ?_
  walk_at "go"
  refine rL (.lst hb2 (by omega) pr2) ?_
  refine i_ne_same ?_
  walk_at "go"
  refine i_propO ?_
  walk_at "go"
  refine ⟨a, dx, _, rfl, sg3.ob, _, rfl, a, pl, ps, rfl, ⟨dx, t, d, sg3⟩, fun H3 s3 => ?_⟩
  have az : ∀ c ∈ AZ, c < 16 ^ 8 := by decide
  have la : ((all pl ps).map (·.1)).length ≤ 5 := by rw [List.length_map]; show ps.length + 1 ≤ 5; omega
  have ra : Rp 5 (dS ((all pl ps).map (·.1))) := Rp.str la fun c hc => by
    obtain ⟨p, hp, rfl⟩ := List.mem_map.mp hc
    rcases List.mem_cons.mp hp with rfl | hp
    · show 48 < 16 ^ 8
      decide
    · exact az _ (g.az p hp)
  have aa : ∀ G, At G (S ((all pl ps).map (·.1))) (dS ((all pl ps).map (·.1))) := fun G => .str _ (by omega)
  have hb3 := s3 _ _ hb2
  have pr3 : Prs H3 xs ps := AtAll.same pr2 s3
  walk_at "go"
  refine i_reprA (aa _) ra (by decide) rfl (show 0 ≤ 60 by decide) ?_
  walk_at "go"
  refine c_lst (xs := xs) (fun R k => by walk_at "go"; exact k) (.inl (.inl hb3)) (by omega) (fun _ => true) (fun i => S [(ps.getD i (0, [])).1]) (fun _ => rfl) (fun i v H4 hi s4 QB k => k H4 (Same.refl H4)) (fun i v H4 hi s4 _ QV k => ?_) (fun Dl H4 n4 s4 d4 => ?_)
  · obtain ⟨p, c, hp, rfl, hc⟩ := prs_get pr3 hi
    have hc1 := s4 _ _ hc
    have ep : ps.getD i (0, []) = p := by rw [List.getD_eq_getElem?_getD, hp]; rfl
    rw [ep] at k
    show (_ : TE) [some (.ref a), some (S pl), some (.ref b), some (.ref c)] H4 QV
    walk_at "go"
    exact k H4 (Same.refl H4)
  · have ek : kept (fun _ => true) (fun i => S [(ps.getD i (0, [])).1]) xs.length = (ps.map (·.1)).map fun c => S [c] := by
      rw [lx, kept_all]
      refine List.ext_getElem? fun i => ?_
      rw [List.getElem?_map, List.getElem?_map, List.getElem?_map]
      rcases Nat.lt_or_ge i ps.length with h | h
      · rw [List.getElem?_range h, Option.map_some, List.getD_eq_getElem?_getD, List.getElem?_eq_getElem h]
        rfl
      · rw [List.getElem?_eq_none (by simpa using h), List.getElem?_eq_none (by omega)]
        rfl
    rw [ek] at d4
    walk_at "go"
    refine i_join1 (.inl (.inl d4)) (by rw [List.length_map]; omega) ?_
    walk_at "go"
    refine i_reprA (aa _) ra (by decide) rfl (show 0 ≤ 60 by decide) ?_
    walk_at "go"
    refine i_eq_same ?_
    exact q _ (((s1.trans s2).trans s3).trans s4)
end
end K75
namespace K75
open PySem PySem.Spec PyProof.Rows L2 Fg
local macro_rules | `(tactic| walk_at "sq") => `(tactic| first
  | assumption
  | exact .inl (.inl (by assumption))
  | exact .inl (.inl upd_same))
local macro_rules | `(tactic| walk_at "st") => `(tactic| first
  | assumption
  | exact .inl (.inl (by assumption))
  | exact .inl (.inl upd_same))
local macro_rules | `(tactic| walk_at "o") => `(tactic| first
  | omega
  | assumption
  | (simp only [List.length_append, List.length_take, List.length_drop, List.length_cons, List.length_nil, List.length_singleton, List.length_map, List.length_range, Int.toNat_natCast] ; omega))
local macro_rules | `(tactic| walk_at "s") => `(tactic| first
  | (with_reducible refine i_seq ?_)
  | (with_reducible refine i_asg ?_)
  | ((with_reducible refine' i_var ?h1 ?_); (case h1 => rfl))
  | (with_reducible refine i_c ?_)
  | ((with_reducible refine' i_gname' ?h1 ?_); (case h1 => (simp only [List.set_cons_zero, List.set_cons_succ]; rfl)))
  | (with_reducible refine i_op ?_)
  | (with_reducible refine i_ifS ?_)
  | (with_reducible refine i_for ?_)
  | (with_reducible refine i_test ?_)
  | (with_reducible refine i_B ?_)
  | (with_reducible refine i_exbl ?_)
  | (with_reducible refine i_exint ?_)
  | (with_reducible refine i_cb ?_)
  | (with_reducible refine i_nil ?_)
  | (with_reducible refine i_cons ?_)
  | (with_reducible refine i_ret ?_)
  | (with_reducible refine i_sl ?_)
  | (with_reducible refine i_nopart ?_)
  | (with_reducible refine i_part ?_)
  | (with_reducible refine i_add_int ?_)
  | (with_reducible refine i_sub ?_)
  | (with_reducible refine i_lt ?_)
  | ((with_reducible refine' i_mod ?h1 ?_); (case h1 => walk_at "o"))
  | ((with_reducible refine' i_fdiv ?h1 ?_); (case h1 => (refine cdiv_small ?_ ?_ <;> walk_at "o")))
  | ((with_reducible refine' i_sl_to ?h1 ?h2 ?_); (case h1 => walk_at "o"); (case h2 => walk_at "o"))
  | ((with_reducible refine' i_sl_from ?h1 ?h2 ?_); (case h1 => walk_at "o"); (case h2 => walk_at "o"))
  | ((with_reducible refine' i_add_str ?h1 ?_); (case h1 => walk_at "o"))
  | ((with_reducible refine' i_mul_int ?h1 ?_); (case h1 => first | (refine mul_small ?_ ?_ <;> walk_at "o") | (refine mul_smallR ?_ ?_ <;> walk_at "o")))
  | (with_reducible refine i_le ?_)
  | (with_reducible refine i_gt ?_)
  | (with_reducible refine i_ge ?_)
  | (with_reducible refine i_eq_int ?_)
  | (with_reducible refine i_eq_str ?_)
  | (with_reducible refine i_ne_int ?_)
  | (with_reducible refine i_ne_str ?_)
  | (with_reducible refine i_eq_bl ?_)
  | (with_reducible refine i_ne_bl ?_)
  | (with_reducible refine i_in_sg ?_)
  | (with_reducible refine i_notIn_sg ?_)
  | (with_reducible refine i_call ?_)
  | (with_reducible refine i_callS ?_)
  | (with_reducible refine i_sp1 ?_)
  | (with_reducible refine i_sp2 ?_)
  | (with_reducible refine i_sp3 ?_)
  | (with_reducible refine i_sp4 ?_)
  | (with_reducible refine i_sp1' ?_)
  | (with_reducible refine i_sp2' ?_)
  | (with_reducible refine i_sp3' ?_)
  | ((with_reducible refine' i_ix_lst ?h1 ?h2 ?_); (case h1 => walk_at "sq"); (case h2 => first | exact atI_nat rfl | rfl))
  | ((with_reducible refine' i_ix_tup ?h1 ?h2 ?_); (case h1 => walk_at "st"); (case h2 => first | exact atI_nat rfl | rfl))
  | (with_reducible refine i_gsub ?_)
  | (with_reducible refine i_par ?_)
  | (with_reducible refine i_lstRg1 ?_)
  | (with_reducible refine i_app ?_)
  | (with_reducible refine i_par2 ?_)
  | ((with_reducible refine' i_aug ?h1 ?_); (case h1 => rfl))
  | (with_reducible refine i_ipI ?_)
  | ((with_reducible refine' i_gtup2 ?h1 ?_); (case h1 => walk_at "st"))
  | (with_reducible refine i_int_bl ?_)
  | (with_reducible refine i_raise ?_)
  | (with_reducible refine i_mkE ?_)
  | (with_reducible refine i_ex1 ?_)
  | (with_reducible refine i_and ?_)
  | (with_reducible refine i_or ?_)
  | (with_reducible refine i_not ?_)
  | (with_reducible refine i_tt ?_)
  | (with_reducible refine i_ff ?_)
  | (with_reducible refine i_nott ?_)
  | (with_reducible refine i_notf ?_)
  | (with_reducible refine i_andV ?_)
  | (with_reducible refine i_orV ?_)
  | (with_reducible refine i_notV ?_)
  | (with_reducible refine i_ifE ?_)
  | (with_reducible refine i_tup ?_)
  | (with_reducible refine i_lst ?_)
  | (with_reducible refine i_un ?_)
  | (with_reducible refine i_neg ?_)
  | (with_reducible refine i_chain ?_)
  | (with_reducible refine i_next ?_)
  | (with_reducible refine i_retN ?_)
  | (with_reducible refine i_drop ?_)
  | (with_reducible refine i_int_int ?_)
  | (with_reducible refine i_abs ?_)
  | (with_reducible refine i_m1c ?_)
  | (with_reducible refine i_is_non ?_)
  | (with_reducible refine i_is_int ?_)
  | (with_reducible refine i_is_bl ?_)
  | (with_reducible refine i_isn_bl ?_)
  | (with_reducible refine i_is_str ?_)
  | (with_reducible refine i_is_ref ?_)
  | (with_reducible refine i_isn_non ?_)
  | (with_reducible refine i_isn_int ?_)
  | (with_reducible refine i_isn_str ?_)
  | (with_reducible refine i_isn_ref ?_)
  | (with_reducible refine i_len_str ?h1 ?_; (case h1 => walk_at "o"))
  | (with_reducible refine i_callD ?_)
  | (with_reducible refine i_spD2 ?_)
  | (with_reducible refine i_spM1 ?_)
  | (with_reducible refine i_spM2 ?_)
  | (with_reducible refine i_spM3 ?_)
  | (with_reducible refine i_spM4 ?_)
  | (with_reducible refine i_spM3d ?_)
  | (with_reducible refine i_tfld ?_)
  | (with_reducible refine i_sfld ?_)
  | (with_reducible refine i_meth ?_)
  | (with_reducible refine i_make ?_)
  | (with_reducible refine i_spl ?_)
  | (with_reducible refine i_mkE2 ?_)
  | (with_reducible refine i_ex2 ?_)
  | (with_reducible refine i_dget ?_)
  | (with_reducible refine i_tru ?_)
  | (with_reducible refine i_dput ?_)
  | (with_reducible refine i_dnotin ?_)
  | (with_reducible refine i_din ?_)
  | (with_reducible refine i_rev ?_)
  | (with_reducible refine i_isi_int_int ?_) | (with_reducible refine i_isi_int_bool ?_) | (with_reducible refine i_isi_int_str ?_) | (with_reducible refine i_isi_int_tuple ?_) | (with_reducible refine i_isi_int_list ?_)
  | (with_reducible refine i_isi_bl_int ?_) | (with_reducible refine i_isi_bl_bool ?_) | (with_reducible refine i_isi_bl_str ?_) | (with_reducible refine i_isi_bl_tuple ?_) | (with_reducible refine i_isi_bl_list ?_)
  | (with_reducible refine i_isi_str_int ?_) | (with_reducible refine i_isi_str_bool ?_) | (with_reducible refine i_isi_str_str ?_) | (with_reducible refine i_isi_str_tuple ?_) | (with_reducible refine i_isi_str_list ?_)
  | (with_reducible refine i_isi_non_int ?_) | (with_reducible refine i_isi_non_bool ?_) | (with_reducible refine i_isi_non_str ?_) | (with_reducible refine i_isi_non_tuple ?_) | (with_reducible refine i_isi_non_list ?_))
local macro_rules | `(tactic| walk_at "go") => `(tactic| (repeat' (walk_at "s")))
local macro_rules | `(tactic| walk_at "n") => `(tactic| simp only [wipe, List.map_cons, List.map_nil, List.set_cons_zero, List.set_cons_succ])
/-! ### all asked -/
theorem sgBad_good : ∀ (ps : Tb) (used : List (List Nat)) (n : Nat), (∀ p ∈ ps, [p.1] ∉ used ∧ p.1 ∈ AZ ∧ p.2.length ≤ 12 ∧ p.2 ≠ [] ∧ firstBad p.2 = none) → (ps.map (·.1)).Nodup → sgBad used n (ps.map sgP) = none
  | [], _, _, _, _ => rfl
  | p :: r, used, n, h, nd => by
    obtain ⟨h1, h2, h3, h4, h5⟩ := h p (List.mem_cons_self ..)
    rw [List.map_cons, List.nodup_cons] at nd
    have es : isSigD (sgP p) = true := by
      show (letL [p.1] && (rowL 12 p.2 && decide (p.2 ≠ []))) = true
      rw [let_one, decide_eq_true h2, decide_eq_true h4]
      unfold rowL
      rw [h5, decide_eq_true (show (p.2.length : Int) ≤ 12 by omega)]
      rfl
    have ek : sgKey (sgP p) = [p.1] := rfl
    show (if isSigD (sgP p) && !decide (sgKey (sgP p) ∈ used) then sgBad (sgKey (sgP p) :: used) (n + 1) (r.map sgP) else some n) = none
    rw [es, ek, decide_eq_false h1, if_pos (by decide)]
    refine sgBad_good r _ _ (fun x hx => ?_) nd.2
    obtain ⟨g1, g2⟩ := h x (List.mem_cons_of_mem _ hx)
    refine ⟨fun z => ?_, g2⟩
    rcases List.mem_cons.mp z with z | z
    · exact nd.1 (List.mem_map.mpr ⟨x, hx, by simpa using z⟩)
    · exact g1 z
theorem sgs_good {ps : Tb} (g : GoodT ps) : sgsD (sgT ps) = none := by
  show (if (ps.map sgP).length ≤ 4 then (sgBad [] 0 (ps.map sgP)).map fun n : Nat => (n : Int) else some (-1)) = none
  have := g.ln
  rw [if_pos (by rw [List.length_map]; exact this), sgBad_good ps [] 0 (fun p hp => ⟨List.not_mem_nil, g.az p hp, g.lw p hp, g.ne p hp, g.ok p hp⟩) g.nd]
  rfl
theorem rnd_good {pl : List Nat} (g : GoodR pl 24) : rndD (dS pl) = none := by
  show rndL pl = none
  unfold rndL
  rw [if_pos ⟨g.ne, g.le⟩, firstBad_none g.row]
  rfl
theorem dS_inj {l m : List Nat} (h : dS l = dS m) : l = m := by
  injection h with h
  exact List.toArray_inj (congrArg PySem.Str.cps h)
theorem sgT_inj : ∀ {ps qs : Tb}, sgT ps = sgT qs → ps = qs := by
  have key : ∀ ps qs : Tb, ps.map sgP = qs.map sgP → ps = qs := fun ps => by
    induction ps with
    | nil =>
      intro qs h
      cases qs with
      | nil => rfl
      | cons q r => cases h
    | cons p r ih =>
      intro qs h
      cases qs with
      | nil => cases h
      | cons q s =>
        rw [List.map_cons, List.map_cons] at h
        injection h with h1 h2
        injection h1 with h1
        injection h1 with h3 h4
        injection h4 with h5 _
        have e1 := dS_inj h3
        injection e1 with e1 _
        have e2 := dS_inj h5
        obtain ⟨p1, p2⟩ := p
        obtain ⟨q1, q2⟩ := q
        cases e1
        cases e2
        rw [ih s h2]
  intro ps qs h
  injection h with h
  exact key ps qs h
theorem sg_keep {C a : Addr} {H H' : Hp} {pl : List Nat} {ps : Tb} (h : Sg C H a pl ps) (s : ∀ b o, H b = some o → (∀ xs, o ≠ .lst xs) → H' b = some o) : Sg C H' a pl ps := by
  obtain ⟨dx, t, d, ob, sg, sp, lp, ls, lw⟩ := h
  exact ⟨dx, t, d, s _ _ ob nofun, sg.keep (fun b xs e => s b _ e nofun) (noL_sg ps), s _ _ sp nofun, lp, ls, lw⟩
/-- an instance is made of what is good -/
theorem mk_good {C CD CR CS p dx : Addr} {G : Hp} {pl : List Nat} {ps : Tb} {z : V} {D : PyData} {R : Hp → Prop} {E : XK} (hz : (∃ d, At G z d ∧ d.depth < 6 ∧ D = deepD d) ∨ (z = .ref CD ∧ D = .tuple [])) (eD : D = sgT ps) (gr : GoodR pl 24) (g : GoodT ps)
    (np : G p = none) (ndx : G dx = none) (ne : dx ≠ p) (q : ∀ H', Same G H' → Sg C H' p pl ps → R H') :
    p_init C CD CR CS (.ref p) (S pl) z (upd (upd G dx (.own p)) p (.ins C dx [])) (fun v H2 => v = .non ∧ R H2) E := by
  have sH : Same G (upd (upd G dx (.own p)) p (.ins C dx [])) := (same_upd ndx).trans (same_upd ((upd_ne ne.symm).trans np))
  refine ⟨p, dx, dS pl, D, rfl, upd_same, .str pl (by have := gr.le; omega), hz.imp (fun ⟨d, h1, h2, h3⟩ => ⟨d, h1.same sH, h2, h3⟩) id, ?_⟩
  subst eD
  rw [rnd_good gr, sgs_good g]
  intro pl2 ps2 H' t dd e3 e4 bt sg
  cases dS_inj e3
  cases sgT_inj e4
  refine ⟨rfl, q H' (fun b o e => ?_) ⟨dx, t, dd, sg⟩⟩
  have hb : b ≠ p := ne_of_none e np
  exact bt b o hb ((upd_ne hb).trans (same_upd ndx _ _ e))
theorem prs_keep {H H' : Hp} {xs : List V} {ps : Tb} (h : Prs H xs ps) (s : SmT H H') : Prs H' xs ps := AtAll.keep h s (by
  have := noL_sg ps
  exact this)
theorem AtAll.set {H : Hp} {v : V} {e : PyData} (hv : At H v e) : ∀ {xs : List V} {ds : List PyData}, AtAll H xs ds → ∀ i : Nat, AtAll H (xs.set i v) (ds.set i e)
  | _, _, .nil, _ => .nil
  | _, _, .cons h r, 0 => .cons hv r
  | _, _, .cons h r, i + 1 => .cons h (AtAll.set hv r i)
theorem prs_set {H : Hp} {xs : List V} {ps : Tb} {v : V} {p : Nat × List Nat} (h : Prs H xs ps) (hv : At H v (sgP p)) (i : Nat) : Prs H (xs.set i v) (ps.set i p) := by
  have := AtAll.set hv h i
  rw [← List.map_set] at this
  exact this
theorem prs_rev {H : Hp} {xs : List V} {ps : Tb} (h : Prs H xs ps) : Prs H xs.reverse ps.reverse := by
  refine atAll_of (by rw [List.length_reverse, List.length_map, List.length_reverse]; exact h.len) fun i v d hv hd => ?_
  have lx := h.len
  rw [List.getElem?_map] at hd
  obtain ⟨p, hp, rfl⟩ := Option.map_eq_some_iff.mp hd
  have hi := (List.getElem?_eq_some_iff.mp hp).1
  rw [List.length_reverse] at hi
  rw [List.getElem?_reverse hi] at hp
  rw [List.getElem?_reverse (by omega)] at hv
  rw [show xs.length - 1 - i = ps.length - 1 - i by omega] at hv
  obtain ⟨e, he, ae⟩ := AtAll.get h hv
  rw [List.getElem?_map, hp] at he
  cases he
  exact ae
theorem good_set {ps : Tb} {k : Nat} {p : Nat × List Nat} {w : List Nat} (g : GoodT ps) (hp : ps[k]? = some p) (hw : Row w) (w1 : 1 ≤ w.length) (w2 : w.length ≤ 12) : GoodT (ps.set k (p.1, w)) := by
  have mem : ∀ {P : Nat × List Nat → Prop}, (∀ q ∈ ps, P q) → P (p.1, w) → ∀ q ∈ ps.set k (p.1, w), P q := fun h1 h2 q hq => by
    rcases List.mem_or_eq_of_mem_set hq with h | h
    · exact h1 q h
    · rw [h]; exact h2
  refine ⟨by rw [List.length_set]; exact g.ln, mem g.az (g.az p (List.mem_of_getElem? hp)), mem g.lw w2, mem g.ne (fun z => by rw [show w = [] from z] at w1; exact absurd w1 (by decide)), mem g.ok (firstBad_none hw), ?_⟩
  rw [List.map_set]
  have e : (ps.map (·.1)).set k p.1 = ps.map (·.1) := by
    refine List.ext_getElem? fun i => ?_
    rw [List.getElem?_set]
    split
    · rename_i e
      subst e
      rw [List.getElem?_map, hp]
      have := (List.getElem?_eq_some_iff.mp hp).1
      rw [if_pos (by rw [List.length_map]; exact this)]
      rfl
    · rfl
  rw [e]
  exact g.nd
theorem good_rev {ps : Tb} (g : GoodT ps) : GoodT ps.reverse := by
  have mem : ∀ {P : Nat × List Nat → Prop}, (∀ q ∈ ps, P q) → ∀ q ∈ ps.reverse, P q := fun h q hq => h q (List.mem_reverse.mp hq)
  exact ⟨by rw [List.length_reverse]; exact g.ln, mem g.az, mem g.lw, mem g.ne, mem g.ok, by rw [List.map_reverse]; exact List.pairwise_reverse.mpr (g.nd.imp fun h => h.symm)⟩
theorem Told.keep {P : Addr → Prop} {H H' : Hp} {ps : Tb} {v : V} (h : Told P H ps v) (s : ∀ c o, H c = some o → ¬ P c → H' c = some o) (sm : SmT H H') : Told P H' ps v := by
  cases h with
  | tup n e al => exact .tup n (s _ _ e n) (prs_keep al sm)
  | lst b n e l k => exact .lst b n (s _ _ e n) l (fun i p hp => by
      obtain ⟨c, h1, h2, h3, h4⟩ := k i p hp
      exact ⟨c, h1, h2, h3, s _ _ h4 h2⟩)
theorem Dr.lst {K : PySem.W.Frag} {d : Dd} {Hk H : Hp} (dr : Dr K d Hk H) : ∃ xs, H d.a = some (.lst xs) := by
  obtain ⟨_, _, _, _, p, b, u, x', s, ha, _⟩ := dr
  exact ⟨_, ha⟩
/-- what stands while signals are asked -/
structure Wd (K : PySem.W.Frag) (C : Addr) (d : Dd) (p b ob : Addr) (pl : List Nat) (ps : Tb) (xs oxs : List V) (ops : Tb) (P : Addr → Prop) (v : V) (G : Hp) : Prop where
  dr : ∃ A, Dr K d A G ∧ A ob = none ∧ ∀ c, A c ≠ none → P c
  sg : Sg C G p pl ps
  hb : G b = some (.lst xs)
  pr : Prs G xs ps
  ho : G ob = some (.lst oxs)
  po : Prs G oxs ops
  td : Told P G ps v
  nb : b ≠ d.a
  no : ob ≠ d.a
  nbo : b ≠ ob
  Pd : P d.a
  Pb : P b
  Po : P ob
section
variable {K : PySem.W.Frag} {C : Addr} {d : Dd} {p b ob : Addr} {pl : List Nat} {ps : Tb} {xs oxs oxs' : List V} {ops ops' : Tb} {P : Addr → Prop} {v : V} {G G' : Hp}
theorem Wd.max (h : Wd K C d p b ob pl ps xs oxs ops P v G) : Dr K d (wo G d.a) G := by
  obtain ⟨A, dr, _⟩ := h.dr
  exact Dr.max dr
theorem Wd.mv (h : Wd K C d p b ob pl ps xs oxs ops P v G) (s : ∀ c o, c ≠ d.a → c ≠ ob → G c = some o → G' c = some o) (dr' : ∃ A, Dr K d A G' ∧ A ob = none ∧ ∀ c, A c ≠ none → P c) (ho' : G' ob = some (.lst oxs')) (po' : Prs G' oxs' ops') : Wd K C d p b ob pl ps xs oxs' ops' P v G' := by
  obtain ⟨A, dr, _⟩ := h.dr
  obtain ⟨dl, hd⟩ := Dr.lst dr
  have nl : ∀ c o, G c = some o → (∀ xs, o ≠ .lst xs) → G' c = some o := fun c o e n =>
    s c o (fun z => by rw [z, hd] at e; cases e; exact n _ rfl) (fun z => by rw [z, h.ho] at e; cases e; exact n _ rfl) e
  have sm : SmT G G' := fun c ys e => nl c _ e nofun
  exact ⟨dr', sg_keep h.sg nl, s _ _ h.nb h.nbo h.hb, prs_keep h.pr sm, ho', po', h.td.keep (fun c o e n => s c o (fun z => n (by rw [z]; exact h.Pd)) (fun z => n (by rw [z]; exact h.Po)) e) sm, h.nb, h.no, h.nbo, h.Pd, h.Pb, h.Po⟩
theorem Wd.same (h : Wd K C d p b ob pl ps xs oxs ops P v G) (s : Same G G') : Wd K C d p b ob pl ps xs oxs ops P v G' := by
  obtain ⟨A, dr, n1, n2⟩ := h.dr
  exact h.mv (fun c o _ _ e => s c o e) ⟨A, dr.same s, n1, n2⟩ (s _ _ h.ho) (AtAll.same h.po s)
theorem Wd.draw (h : Wd K C d p b ob pl ps xs oxs ops P v G) (dr : Dr K d (wo G d.a) G') : Wd K C d p b ob pl ps xs oxs ops P v G' := by
  have s : ∀ c o, c ≠ d.a → G c = some o → G' c = some o := fun c o n e => dr.1 _ _ ((wo_ne n).trans e)
  obtain ⟨A, dr0, n1, n2⟩ := h.dr
  obtain ⟨dl, hd⟩ := Dr.lst dr0
  exact h.mv (fun c o n _ e => s c o n e) ⟨A, dr.back dr0 (fun c o e => (wo_ne (ne_of_none e dr0.2.1)).trans (dr0.1 _ _ e)), n1, n2⟩ (s _ _ h.no h.ho) (prs_keep h.po fun c ys e => s c _ (fun z => by rw [z, hd] at e; cases e) e)
/-- the list at ob changes -/
theorem Wd.put (h : Wd K C d p b ob pl ps xs oxs ops P v G) (po' : Prs G oxs' ops') : Wd K C d p b ob pl ps xs oxs' ops' P v (upd G ob (.lst oxs')) := by
  obtain ⟨A, dr, n1, n2⟩ := h.dr
  obtain ⟨s0, n0, hc, hl, p1, b1, u, x, sd, ha, hp⟩ := dr
  refine h.mv (fun c o _ n e => (upd_ne n).trans e) ⟨A, ⟨fun c o e => (upd_ne (ne_of_none e n1)).trans (s0 _ _ e), n0, hc, hl, p1, b1, u, x, sd, (upd_ne h.no.symm).trans ha, hp⟩, n1, n2⟩ upd_same (prs_keep po' fun c ys e => (upd_ne (fun z => by rw [z, h.ho] at e; cases e)).trans e)
/-- another list in place of ob -/
theorem Wd.other {q : Addr} (h : Wd K C d p b ob pl ps xs oxs ops P v G) (n : G q = none) (po' : Prs (upd G q (.lst oxs')) oxs' ops') : Wd K C d p b q pl ps xs oxs' ops' (fun c => P c ∨ c = q) v (upd G q (.lst oxs')) := by
  have h2 := h.same (same_upd (o := .lst oxs') n)
  obtain ⟨A, dr, n1, n2⟩ := h.dr
  obtain ⟨dl, hd⟩ := Dr.lst dr
  exact ⟨⟨A, dr.same (same_upd n), dr.free n, fun c e => .inl (n2 c e)⟩, h2.sg, h2.hb, h2.pr, upd_same, po', (h.td.more n).same (same_upd n), h.nb, (fun z => by rw [z, hd] at n; cases n), (fun z => by rw [← z, h.hb] at n; cases n), .inl h.Pd, .inl h.Pb, .inr rfl⟩
end
/-- .. behind the spoiling -/
structure Wf (K : PySem.W.Frag) (C : Addr) (d : Dd) (p po b ob : Addr) (pl : List Nat) (ps : Tb) (xs : List V) (opl : List Nat) (ops : Tb) (oxs : List V) (G : Hp) : Prop where
  dr : ∃ A, Dr K d A G
  sg : Sg C G p pl ps
  so : Sg C G po opl ops
  hb : G b = some (.lst xs)
  pr : Prs G xs ps
  ho : G ob = some (.lst oxs)
  pp : Prs G oxs ops
  nb : b ≠ d.a
  no : ob ≠ d.a
section
variable {K : PySem.W.Frag} {C : Addr} {d : Dd} {p po b ob : Addr} {pl opl : List Nat} {ps ops : Tb} {xs oxs : List V} {G G' : Hp}
theorem Wf.max (h : Wf K C d p po b ob pl ps xs opl ops oxs G) : Dr K d (wo G d.a) G := by
  obtain ⟨A, dr⟩ := h.dr
  exact Dr.max dr
theorem Wf.same (h : Wf K C d p po b ob pl ps xs opl ops oxs G) (s : Same G G') : Wf K C d p po b ob pl ps xs opl ops oxs G' := by
  obtain ⟨A, dr⟩ := h.dr
  exact ⟨⟨A, dr.same s⟩, h.sg.same s, h.so.same s, s _ _ h.hb, AtAll.same h.pr s, s _ _ h.ho, AtAll.same h.pp s, h.nb, h.no⟩
theorem Wf.draw {A : Hp} (h : Wf K C d p po b ob pl ps xs opl ops oxs G) (sA : Same (wo G d.a) A) (dr : Dr K d A G') : Wf K C d p po b ob pl ps xs opl ops oxs G' := by
  have s : ∀ c o, c ≠ d.a → G c = some o → G' c = some o := fun c o n e => dr.1 _ _ (sA _ _ ((wo_ne n).trans e))
  obtain ⟨A0, dr0⟩ := h.dr
  obtain ⟨dl, hd⟩ := Dr.lst dr0
  have nl : ∀ c o, G c = some o → (∀ xs, o ≠ .lst xs) → G' c = some o := fun c o e n => s c o (fun z => by rw [z, hd] at e; cases e; exact n _ rfl) e
  have sm : SmT G G' := fun c ys e => nl c _ e nofun
  exact ⟨⟨_, dr⟩, sg_keep h.sg nl, sg_keep h.so nl, s _ _ h.nb h.hb, prs_keep h.pr sm, s _ _ h.no h.ho, prs_keep h.pp sm, h.nb, h.no⟩
end
theorem badPc_lt {t : Tb} {l : List Nat} {n : Nat} (h : badPc t l = some n) : n < l.length := by
  unfold badPc at h
  exact (List.findIdx?_eq_some_iff_getElem.mp h).1
theorem res_ok {pl : List Nat} {ps : Tb} (gr : GoodR pl 24) (g : GoodT ps) (e : PyData) : ResD 4810 (resM (calD (all pl ps) e)) := by
  have wl : ∀ p ∈ all pl ps, p.2.length ≤ 24 ∧ ∀ c ∈ p.2, c ∈ SG := fun p hp => by
    rcases List.mem_cons.mp hp with rfl | hp
    · exact ⟨gr.le, gr.row⟩
    · exact ⟨by have := g.lw p hp; omega, firstBad_sg (g.ok p hp)⟩
  have bad : ∀ n : Int, n.natAbs < 200 → ResD 4810 (resM (.inl n)) := fun n h => by
    have := res_pair (l := cBad) (m := []) (n := 10) (by decide) (by decide) (e := .int n) (Rp.int (Nat.lt_trans h (by decide))) rfl rfl
    exact ⟨this.rp.mono (by decide), this.dep, this.nd⟩
  cases ec : calD (all pl ps) e with
  | inl n =>
    refine bad n ?_
    cases e with
    | str x =>
      have ec : calL (all pl ps) x.cps.toList = .inl n := ec
      unfold calL at ec
      split at ec
      · split at ec
        · rename_i k hk
          cases ec
          have := badPc_lt hk
          omega
        · cases ec
      · cases ec
        decide
    | _ => cases ec; decide
  | inr l =>
    have ll := cal_len (fun p hp => (wl p hp).1) ec
    have lc : ∀ c ∈ l, c ∈ SG := by
      cases e with
      | str x =>
        have ec : calL (all pl ps) x.cps.toList = .inr l := ec
        unfold calL at ec
        split at ec
        · split at ec
          · cases ec
          · cases ec
            intro c hc
            obtain ⟨m, hm, hc⟩ := List.mem_flatten.mp hc
            obtain ⟨c0, _, rfl⟩ := List.mem_map.mp hm
            cases e1 : (all pl ps).lookup c0 with
            | none => rw [e1] at hc; exact absurd hc List.not_mem_nil
            | some w => rw [e1] at hc; exact (wl _ (look_mem e1)).2 c hc
        · cases ec
      | _ => cases ec
    have sgb : ∀ c ∈ SG, c < 16 ^ 8 := by decide
    have := res_pair (l := cRow) (m := []) (n := 2400) (by decide) (by decide) (e := dS l) (Rp.str ll fun c hc => sgb c (lc c hc)) rfl rfl
    exact ⟨this.rp.mono (by decide), this.dep, this.nd⟩
section
variable {P : Program} {w : World} {K : PySem.W.Frag} {mg : Str → Option Value} {base : Heap} {C_GlimError C_BadRow C_BadRound C_BadSignal C_BadMessage C_Signals C_dt_Signals___init__ : Addr}
def p_L_asked (K : PySem.W.Frag) : P1 := fun x H Q _ => ∃ H0 d, x = .ref d.a ∧ Dr K d H0 H ∧ ∀ H', Q (.bl true) H'
theorem ok_L_asked (T : Txt K mg C_GlimError C_BadRow C_BadRound C_BadSignal C_BadMessage C_Signals C_dt_Signals___init__) : GOK P w K mg base CX0 11 "_law_asked" ["_law_draw_here"] (sp1  (p_L_asked K)) := by
  refine GOK.mk (k := 10) T.d_L_asked sc_L_asked len1 fun f cdv A outer s H vs Q E hgu hr h => ?_
  obtain ⟨x, rfl, h⟩ := h
  refine ⟨_, (pss_cons (ps_asg (pe_f (ok_L_talk (K := K) T) (hr.mono (by decide)) pass0 (pa_cons (pv 0) (pa_cons pe_int (pa_cons pe_int pa_nil)))) (pgTup (n := 2) K rfl (pgs_cons (pg_name (i := 1) sc_L_asked.nd rfl (Or.inl rfl)) (pgs_cons (pg_name (i := 2) sc_L_asked.nd rfl (Or.inl rfl)) pgs_nil)))) (pss_cons (ps_set (i := 3) sc_L_asked.nd rfl (Or.inl rfl) (pe_f (ok_L_formed (K := K) T) (hr.mono (by decide)) pass0 (pa_cons (pv 0) (pa_cons (pv 2) pa_nil)))) (pss_cons (ps_set (i := 4) sc_L_asked.nd rfl (Or.inl rfl) (pe_callB (Fg.cReprB K hgu hr.units) (by rfl) T.b_repr (by decide +kernel) (pa_cons (pv 3) pa_nil))) (pss_cons (ps_set (i := 5) sc_L_asked.nd rfl (Or.inl rfl) (pe_mk (ok_Signals___init__ (K := K) T) (hr.mono (by decide)) Fg.passN (pa_cons (pv 1) (pa_cons (pv 3) pa_nil)))) (pss_cons (ps_if (pw_or (pt_not (pt_val (pe_g (ok_L_is_told (K := K) T) hgu (hr.mono (by decide)) pass0 (pa_cons (pv 5) (pa_cons (pv 1) (pa_cons (pv 2) pa_nil)))))) (pw_or1 (pt_cmpR (opNe K hr.units) (pe_callB (Fg.cReprB K hgu hr.units) (by rfl) T.b_repr (by decide +kernel) (pa_cons (pv 3) pa_nil)) (pv 4) (nomark _)))).pt (pss_one (ps_ret pe_bl)) pss_nil) (pss_cons (ps_par (i := 6) (j := 7) rfl sc_L_asked.nd rfl rfl (by decide) rfl rfl (pa_cons (pv 1) (pa_cons (pe_callTy (cListP K) (by rfl) T.b_list (by decide +kernel) (pa_cons (pv 2) pa_nil)) pa_nil)) (by rfl)) (pss_cons (ps_set (i := 8) sc_L_asked.nd rfl (Or.inl rfl) (pe_f (ok_L_pick (K := K) T) (hr.mono (by decide)) pass0 (pa_cons (pv 0) (pa_cons pe_int pa_nil)))) (Evl.pss_cut (ps_if (pt_cmpR (opEq K hr.units) (pv 8) pe_int (nomark _)) (pss_one (ps_set (i := 6) sc_L_asked.nd rfl (Or.inl rfl) (pe_slice (slK K) (pe_f (ok_L_bent (K := K) T) (hr.mono (by decide)) pass0 (pa_cons (pv 0) (pa_cons (pv 1) pa_nil))) po_none (po_some pe_int)))) (pss_one (ps_if (pw_and (pt_cmpR (opEq K hr.units) (pv 8) pe_int (nomark _)) (pw_and1 (ptTruth K (pv 2) (fun _ => rfl)))).pt (pss_cons (ps_set (i := 9) sc_L_asked.nd rfl (Or.inl rfl) (pe_f (ok_L_pick (K := K) T) (hr.mono (by decide)) pass0 (pa_cons (pv 0) (pa_cons (pe_callB (cLen K) (by rfl) T.b_len (by decide +kernel) (pa_cons (pv 2) pa_nil)) pa_nil)))) (pss_one (ps_asg (pe_tup (pa_cons (pe_ix (ixK K) (pe_ix (ixK K) (pv 2) (pv 9) (fun _ _ => rfl)) pe_int (fun _ _ => rfl)) (pa_cons (pe_slice (slK K) (pe_f (ok_L_bent (K := K) T) (hr.mono (by decide)) pass0 (pa_cons (pv 0) (pa_cons (pe_ix (ixK K) (pe_ix (ixK K) (pv 2) (pv 9) (fun _ _ => rfl)) pe_int (fun _ _ => rfl)) pa_nil))) po_none (po_some pe_int)) pa_nil))) (pg_sub (pv 7) (pv 9) set_list)))) (pss_one (ps_if (pt_cmpR (opEq K hr.units) (pv 8) pe_int (nomark _)) (pss_one (ps_set (i := 7) sc_L_asked.nd rfl (Or.inl rfl) (Fg.pe_rev K (pv 2) (po_some (pe_un un_neg pe_int))))) pss_nil))))) (pss_cons (ps_set (i := 10) sc_L_asked.nd rfl (Or.inl rfl) (pe_mk (ok_Signals___init__ (K := K) T) (hr.mono (by decide)) Fg.passN (pa_cons (pv 6) (pa_cons (pe_callTy (cTup K) (by rfl) T.b_tuple (by decide +kernel) (pa_cons (pv 7) pa_nil)) pa_nil)))) (Evl.pss_cut (ps_set (i := 11) sc_L_asked.nd rfl (Or.inl rfl) (pe_and (pe_cmpR (opEq K hr.units) (pv 6) (pv 1) (nomark _)) (pe_one (pe_cmpR (opEq K hr.units) (pv 7) (pv 2) (nomark _))))) (pss_cons (ps_if (pw_or (pt_cmpR (opNe K hr.units) (pe_callB (Fg.cReprA K hgu hr.units) (by rfl) T.b_repr (by decide +kernel) (pa_cons (pe_cmpR (Fg.opEqOX K (ok_Signals___eq__ (K := K) T) (hr.mono (by decide)) pass0) (pv 5) (pv 10) (nomark _)) pa_nil)) (pe_callB (Fg.cReprA K hgu hr.units) (by rfl) T.b_repr (by decide +kernel) (pa_cons (pv 11) pa_nil)) (nomark _)) (pw_or1 (pt_cmpR (opNe K hr.units) (pe_callB (Fg.cReprA K hgu hr.units) (by rfl) T.b_repr (by decide +kernel) (pa_cons (pe_cmpR (Fg.opEqOX K (ok_Signals___eq__ (K := K) T) (hr.mono (by decide)) pass0) (pv 5) (pe_mk (ok_Signals___init__ (K := K) T) (hr.mono (by decide)) Fg.passN (pa_cons (pv 1) (pa_cons (pv 2) pa_nil))) (nomark _)) pa_nil)) (pe_S [84, 114, 117, 101]) (nomark _)))).pt (pss_one (ps_ret pe_bl)) pss_nil) (pss_cons (ps_for PassesOwn.never rfl (piAny K (pe_lst (pa_cons (pv 1) (pa_cons (pe_tup (pa_cons (pv 1) (pa_cons (pe_callTy (cTup K) (by rfl) T.b_tuple (by decide +kernel) (pa_cons (pv 2) pa_nil)) pa_nil))) (pa_cons pe_int (pa_cons (pe_lst pa_nil) pa_nil)))))) (pg_name (i := 12) sc_L_asked.nd rfl (Or.inl rfl)) (pss_one (ps_if (pt_cmpR (opNe K hr.units) (pe_callB (Fg.cReprA K hgu hr.units) (by rfl) T.b_repr (by decide +kernel) (pa_cons (pe_cmpR (Fg.opEqOX K (ok_Signals___eq__ (K := K) T) (hr.mono (by decide)) pass0) (pv 5) (pv 12) (nomark _)) pa_nil)) (pe_S [70, 97, 108, 115, 101]) (nomark _)) (pss_one (ps_ret pe_bl)) pss_nil))) (pss_cons (ps_expr (pe_f (ok_L_spoil (K := K) T) (hr.mono (by decide)) pass0 (pa_cons (pv 3) pa_nil))) (pss_cons (ps_for PassesOwn.never rfl (pi_range1 rfl T.b_range (pa_cons pe_int pa_nil)) (pg_name (i := 13) sc_L_asked.nd rfl (Or.inl rfl)) (pss_cons (ps_set (i := 14) sc_L_asked.nd rfl (Or.inl rfl) (pe_f (ok_L_message (K := K) T) (hr.mono (by decide)) pass0 (pa_cons (pv 0) (pa_cons (pe_op (opAdd K) (pe_S [48]) (peJoin K (pe_S []) (pe_lc (own := [("_law_pair", 16)]) (g := gName 16) (tt := tYes) (by rfl) sc_L_asked.nd (piAny K (pv 2)) (blkOk_by (own := [("_law_pair", 16)]) (N := ["_law_draw_here", "_law_plain", "_law_pairs", "_law_told", "_law_before", "_law_signals", "_law_other_plain", "_law_other_pairs", "_law_kind", "_law_place", "_law_other", "_law_same", "_law_thing", "_law_turn", "_law_message_here", "_law_alone", "_law_pair"]) (sc := (defScope s_L_asked)) (by decide +kernel)) (fun _ _ _ _ _ => (pg_name (i := 16) sc_L_asked.nd rfl (Or.inl rfl))) (fun _ _ _ _ _ => pts_nil) (fun _ _ _ _ _ => (pe_ix (ixK K) (pv 16) pe_int (fun _ _ => rfl)))))) pa_nil)))) (pss_cons (ps_if (pt_cmpR (opNe K hr.units) (pe_callB (Fg.cReprA K hgu hr.units) (by rfl) T.b_repr (by decide +kernel) (pa_cons (pe_f (ok_L_row_told (K := K) T) (hr.mono (by decide)) pass0 (pa_cons (pv 5) (pa_cons (pv 14) pa_nil))) pa_nil)) (pe_callB (Fg.cReprA K hgu hr.units) (by rfl) T.b_repr (by decide +kernel) (pa_cons (pe_f (ok_L_row_due (K := K) T) (hr.mono (by decide)) pass0 (pa_cons (pv 1) (pa_cons (pv 2) (pa_cons (pv 14) pa_nil)))) pa_nil)) (nomark _)) (pss_one (ps_ret pe_bl)) pss_nil) (pss_one (ps_if (pt_cmpR (opNe K hr.units) (pe_callB (Fg.cReprA K hgu hr.units) (by rfl) T.b_repr (by decide +kernel) (pa_cons (pe_f (ok_L_row_told (K := K) T) (hr.mono (by decide)) pass0 (pa_cons (pv 10) (pa_cons (pv 14) pa_nil))) pa_nil)) (pe_callB (Fg.cReprA K hgu hr.units) (by rfl) T.b_repr (by decide +kernel) (pa_cons (pe_f (ok_L_row_due (K := K) T) (hr.mono (by decide)) pass0 (pa_cons (pv 6) (pa_cons (pv 7) (pa_cons (pv 14) pa_nil)))) pa_nil)) (nomark _)) (pss_one (ps_ret pe_bl)) pss_nil))))) (pss_cons (ps_set (i := 15) sc_L_asked.nd rfl (Or.inl rfl) (pe_mkd (ok_Signals___init__ (K := K) T) (hr.mono (by decide)) Fg.passN (pa_cons (pv 1) pa_nil))) (pss_cons (ps_if (pw_or (pt_not (pt_val (pe_g (ok_L_is_told (K := K) T) hgu (hr.mono (by decide)) pass0 (pa_cons (pv 15) (pa_cons (pv 1) (pa_cons (pe_lst pa_nil) pa_nil)))))) (pw_or1 (pt_not (pt_val (pe_g (ok_L_is_told (K := K) T) hgu (hr.mono (by decide)) pass0 (pa_cons (pv 10) (pa_cons (pv 6) (pa_cons (pv 7) pa_nil)))))))).pt (pss_one (ps_ret pe_bl)) pss_nil) (pss_one (ps_ret (pe_and (pe_g (ok_L_is_told (K := K) T) hgu (hr.mono (by decide)) pass0 (pa_cons (pv 5) (pa_cons (pv 1) (pa_cons (pv 2) pa_nil)))) (pe_one (pe_g (ok_L_is_refused_well (K := K) T) hgu (hr.mono (by decide)) pass0 (pa_cons (pv 0) (pa_cons (pv 1) (pa_cons (pv 2) pa_nil)))))))))))))))))))))))), ?_⟩
  show (_ : TS) { nx := fun _ H' => Q .non H', rt := Q } [some x, none, none, none, none, none, none, none, none, none, none, none, none, none, none, none, none] H
  obtain ⟨H0, d, rfl, dr, q⟩ := h
  walk_at "go"
  refine ⟨H0, d, rfl, rfl, rfl, dr, fun pl ps a0 b xs A G0 sA nA gr g hb pr ha dr0 => ?_⟩
  refine i_gtup2 (SqT.of (dr0.old ha)) ?_
  walk_at "go"
  have gl := g.ln
  refine ⟨A, d, b, xs, ps, rfl, rfl, dr0, hb, pr, g, fun G1 v H1 dr1 s1 td => ?_⟩
  show (_ : TS) _ [some (.ref d.a), some (S pl), some (.ref b), some v, none, none, none, none, none, none, none, none, none, none, none, none, none] H1
  obtain ⟨dt, at1, ed, dep, rpt, ndt⟩ := told_at td g
  walk_at "go"
  refine i_reprB at1 rpt (by decide) (.inl (.inl ndt)) (by omega) ?_
  walk_at "go"
  intro p dx np ndx ne
  walk_at "go"
  refine mk_good (.inl ⟨dt, at1, by omega, rfl⟩) ed gr g np ndx ne fun H2 s2 sg => ?_
  clear np ndx ne
  have dr2 := dr1.same (s1.trans s2)
  have hb2 := dr2.old hb
  have pr2 : Prs H2 xs ps := AtAll.same pr dr2.1
  have td2 := td.same s2
  have at2 := at1.same s2
  walk_at "go"
  refine ⟨p, pl, ps, b, xs, rfl, rfl, rfl, sg, g, gr.row, hb2, pr2, fun H3 s3 => ?_⟩
  walk_at "go"
  refine i_reprB (at2.same s3) rpt (by decide) (.inl (.inl ndt)) (by omega) ?_
  walk_at "go"
  refine i_ne_same ?_
  walk_at "go"
  refine ⟨b, xs, rfl, .inl (.inl (.inl (s3 _ _ hb2))), fun ob no => ?_⟩
  have wd : Wd K C_Signals d p b ob pl ps xs xs ps (fun c => G1 c ≠ none ∨ c = ob) v (upd H3 ob (.lst xs)) := by
    have dr3 := dr2.same s3
    obtain ⟨dl, hd⟩ := Dr.lst dr1
    have s4 := same_upd (o := HO.lst xs) no
    refine ⟨⟨A, dr3.same s4, dr3.free no, fun c e => .inl fun z => e (dr1.1.free z)⟩, (sg.same s3).same s4, s4 _ _ (s3 _ _ hb2), AtAll.same (AtAll.same pr2 s3) s4, upd_same, AtAll.same (AtAll.same pr2 s3) s4, ((td2.same s3).more no).same s4, fun z => ?_, fun z => ?_, fun z => ?_, .inl (by rw [hd]; simp), .inl (by rw [dr1.old hb]; simp), .inr rfl⟩
    · rw [z, nA] at hb; cases hb
    · obtain ⟨dl3, hd3⟩ := Dr.lst dr3
      rw [z, hd3] at no; cases no
    · rw [← z, s3 _ _ hb2] at no; cases no
  clear td td2 at1 at2 ed dr1 dr2 sg hb2 pr2 s3 no s1 s2 dr0 pr ha hb sA nA dr
  generalize upd H3 ob (.lst xs) = H4 at *
  generalize (fun c => G1 c ≠ none ∨ c = ob) = P at *
  walk_at "go"
  refine ⟨_, d, 4, rfl, rfl, wd.max, by decide, fun kd G5 dr5 b5 => ?_⟩
  have wd := wd.draw dr5
  clear dr5
  walk_at "go"
  refine i_cut (fun σ G => ∃ (ob : Addr) (opl : List Nat) (ops : Tb) (oxs : List V) (v9 : Option V) (P : Addr → Prop), σ = [some (.ref d.a), some (S pl), some (.ref b), some v, some (V.str dt.shown), some (.ref p), some (S opl), some (.ref ob), some (.int kd), v9, none, none, none, none, none, none, none] ∧
    GoodR opl 24 ∧ GoodT ops ∧ Wd K C_Signals d p b ob pl ps xs oxs ops P v G) ?_ ?_
  · have lx := wd.pr.len
    walk_at "go"
    refine i_dec (fun c0 => ?_) (fun c0 => ?_)
    · walk_at "go"
      refine ⟨_, d, pl, rfl, rfl, wd.max, gr.row, gr.ne, by have := gr.le; omega, fun l' G6 dr6 r1 n1 n2 => ?_⟩
      have wd := wd.draw dr6
      have := gr.le
      walk_at "go"
      exact ⟨ob, l'.take 24, ps, xs, _, P, rfl, ⟨r1.take 24, by rw [List.length_take]; omega, by rw [List.length_take]; omega⟩, g, wd⟩
    walk_at "go"
    refine i_dec (fun c1 => ?_) (fun c1 => ?_)
    · walk_at "go"
      refine i_truL wd.hb ?_
      by_cases hn : xs = []
      · subst hn
        show (if (false : Bool) = true then _ else _)
        walk_at "go"
        refine i_dec (fun c2 => absurd c2 (by omega)) (fun c2 => ?_)
        walk_at "go"
        exact ⟨ob, pl, ps, _, _, P, rfl, gr, g, wd⟩
      have pos := List.length_pos_iff.mpr hn
      have e1 : (!xs.isEmpty) = true := by
        cases xs with
        | nil => exact absurd rfl hn
        | cons x r => rfl
      rw [e1]
      walk_at "go"
      refine i_len_lst (.inl (.inl wd.hb)) ?_
      walk_at "go"
      refine ⟨_, d, _, rfl, rfl, wd.max, by omega, fun n G6 dr6 bn => ?_⟩
      have wd := wd.draw dr6
      clear dr6
      obtain ⟨k, rfl⟩ : ∃ k : Nat, n = (k : Int) := ⟨n.toNat, by have := bn.1; omega⟩
      have hk : k < xs.length := by have := bn.2.1; have := bn.2.2; omega
      obtain ⟨pp, c, hpp, ec, hc⟩ := prs_get wd.pr (List.getElem?_eq_getElem hk)
      have hxk : xs[k]? = some (.ref c) := (List.getElem?_eq_getElem hk).trans (congrArg some ec)
      have hw := g.lw pp (List.mem_of_getElem? hpp)
      have hrow := firstBad_sg (g.ok pp (List.mem_of_getElem? hpp))
      have hne : 1 ≤ pp.2.length := List.length_pos_iff.mpr (g.ne pp (List.mem_of_getElem? hpp))
      walk_at "go"
      refine i_ix_lst (v := .ref c) (.inl (.inl wd.hb)) (atI_nat hxk) ?_
      walk_at "go"
      refine i_ix_lst (v := .ref c) (.inl (.inl wd.hb)) (atI_nat hxk) ?_
      walk_at "go"
      refine ⟨_, d, pp.2, rfl, rfl, wd.max, hrow, hne, by omega, fun l' G7 dr7 r1 n1 n2 => ?_⟩
      have wd := wd.draw dr7
      clear dr7
      walk_at "go"
      refine i_new (by show 2 ≤ 100000; omega) fun tp ntp => ?_
      have wd := wd.same (same_upd (o := HO.tup [S [pp.1], S (l'.take 12)]) ntp)
      have ht : At (upd G7 tp (HO.tup [S [pp.1], S (l'.take 12)])) (.ref tp) (sgP (pp.1, l'.take 12)) := .tup upd_same (by decide : 2 ≤ 10000) (.cons (.str _ (by decide : 1 ≤ 10000)) (.cons (.str _ (by rw [List.length_take]; omega)) .nil))
      walk_at "go"
      refine i_setL k wd.ho (Evl.ixN_nat hk) rfl ?_
      walk_at "go"
      exact ⟨ob, pl, _, _, _, P, rfl, gr, good_set g hpp (r1.take 12) (by rw [List.length_take]; omega) (by rw [List.length_take]; omega), wd.put (prs_set wd.po ht k)⟩
    walk_at "go"
    refine i_dec (fun c2 => ?_) (fun c2 => ?_)
    · walk_at "go"
      refine i_revL (.inl (.inl wd.hb)) fun ob2 no2 => ?_
      have wd2 := wd.other no2 (AtAll.same (prs_rev wd.pr) (same_upd no2))
      walk_at "go"
      exact ⟨ob2, pl, _, _, _, _, rfl, gr, good_rev g, wd2⟩
    · walk_at "go"
      exact ⟨ob, pl, ps, _, _, P, rfl, gr, g, wd⟩
  · rintro σ G ⟨ob, opl, ops, oxs, v9, P, rfl, gro, go, wd⟩
    have lo := wd.po.len
    have glo := go.ln
    walk_at "go"
    refine i_tuple_lst (.inl (.inl wd.ho)) fun tl nt => ?_
    have s1 := same_upd (o := HO.tup oxs) nt
    have ht : At (upd G tl (HO.tup oxs)) (.ref tl) (sgT ops) := .tup upd_same (by omega) (AtAll.same wd.po s1)
    have wd := wd.same s1
    generalize upd G tl (HO.tup oxs) = G1 at *
    walk_at "go"
    intro po dxo np ndx ne
    walk_at "go"
    obtain ⟨t1, t2, t3⟩ := sm_tuple (sgLs_sm false go) (by rw [List.length_map]; exact glo)
    have et : deepD (sgT ops) = sgT ops := by
      show PyData.tuple (deepD.deepDs (ops.map sgP)) = _
      rw [deepDs_map]
      exact congrArg PyData.tuple (deep_sgL false ops)
    refine mk_good (.inl ⟨sgT ops, ht, by show (PyData.tuple (ops.map (sgL false))).depth < 6; omega, rfl⟩) et gro go np ndx ne fun G2 s2 sgo => ?_
    clear np ndx ne ht s1
    have wd := wd.same s2
    clear s2
    have sh : ∀ {qs : Tb}, GoodT qs → SeqAt.shaped (.list (qs.map sgP)) = true := fun {qs} g => by
      have h1 : PyData.canLayAll0 (qs.map sgP) = true := sgT_lay g
      have h2 : PyData.depthAll (qs.map sgP) + 1 ≤ 3 := sgT_dep qs
      show (PyData.canLayAll0 (qs.map sgP) && decide (PyData.depthAll (qs.map sgP) + 1 ≤ 64)) = true
      rw [h1, decide_eq_true (by omega)]
      rfl
    have ndl : ∀ {qs : Tb}, GoodT qs → (PyData.list (qs.map sgP)).hasDict = false := fun g => (sm_list (sgLs_sm false g) (by rw [List.length_map]; exact g.ln)).2.2
    walk_at "go"
    refine i_cut (fun σ G => σ = [some (.ref d.a), some (S pl), some (.ref b), some v, some (V.str dt.shown), some (.ref p), some (S opl), some (.ref ob), some (.int kd), v9, some (.ref po), some (.bl (decide (opl = pl) && PyData.eqv (.list (ops.map sgP)) (.list (ps.map sgP)))), none, none, none, none, none] ∧ G = G2) ?_ ?_
    · walk_at "go"
      have eqL : ∀ {R : VK}, R (.bl (PyData.eqv (.list (ops.map sgP)) (.list (ps.map sgP)))) G2 → eqP K (.ref ob) (.ref b) G2 R := fun k =>
        i_eq_data ((At.mkLst wd.ho wd.po (by rw [List.length_map]; omega)).dp K _ _ (ndl go)) ((At.mkLst wd.hb wd.pr (by rw [List.length_map]; omega)).dp K _ _ (ndl g)) (sh go) (sh g) rfl k
      by_cases eo : opl = pl
      · rw [decide_eq_true eo]
        walk_at "go"
        refine eqL ?_
        walk_at "go"
        exact ⟨rfl, rfl⟩
      · rw [decide_eq_false eo]
        walk_at "go"
        exact ⟨rfl, rfl⟩
    rintro σ G ⟨rfl, rfl⟩
    have er : (decide (pl = opl) && (sgT ps).eqv (sgT ops)) = (decide (opl = pl) && PyData.eqv (.list (ops.map sgP)) (.list (ps.map sgP))) := by
      have e1 : decide (pl = opl) = decide (opl = pl) := by
        rw [Bool.eq_iff_iff, decide_eq_true_eq, decide_eq_true_eq]
        exact ⟨Eq.symm, Eq.symm⟩
      rw [e1, PySem.W.eqv_comm (sgT ps) (sgT ops)]
      unfold sgT
      simp only [PyData.eqv]
    have es : (decide (pl = pl) && (sgT ps).eqv (sgT ps)) = true := by
      rw [decide_eq_true rfl, PySem.SeqAt.eqv_refl _ (sgT_lay g)]
      rfl
    generalize (decide (opl = pl) && PyData.eqv (.list (ops.map sgP)) (.list (ps.map sgP))) = r at *
    have rb : ∀ {H : Hp} {Q : VK} (b : Bool), Q (.str (PyData.bool b).shown) H → rReprA K [.bl b] H Q := fun b k => i_reprA (.bl b) (Rp.bool (m := 1) b) (by decide) rfl (show 0 ≤ 60 by decide) k
    obtain ⟨dxo, to, ddo, go1⟩ := id sgo
    obtain ⟨dx1, t1', dd1, gp1⟩ := id wd.sg
    walk_at "go"
    refine i_eqOO gp1.ob go1.ob ⟨_, _, rfl, p, pl, ps, rfl, wd.sg, g, .inl ⟨po, opl, ops, rfl, sgo, go, _, rfl, ?_⟩⟩
    rw [er]
    walk_at "go"
    refine rb _ ?_
    walk_at "go"
    refine rb _ ?_
    refine i_ne_same ?_
    walk_at "go"
    intro p3 dx3 np3 ndx3 ne3
    walk_at "go"
    have lx := wd.pr.len
    obtain ⟨u1, u2, u3⟩ := sm_list (sgLs_sm false g) (by rw [List.length_map]; exact gl)
    have el : deepD (.list (ps.map sgP)) = sgT ps := by
      show PyData.tuple (deepD.deepDs (ps.map sgP)) = _
      rw [deepDs_map]
      exact congrArg PyData.tuple (deep_sgL false ps)
    refine mk_good (.inl ⟨_, At.mkLst wd.hb wd.pr (by rw [List.length_map]; omega), by show (PyData.list (ps.map (sgL false))).depth < 6; omega, rfl⟩) el gr g np3 ndx3 ne3 fun G3 s3 sg3 => ?_
    clear np3 ndx3 ne3
    have wd := wd.same s3
    have sgo := sgo.same s3
    clear s3 gp1 go1
    obtain ⟨dx1, t1', dd1, gp1⟩ := id wd.sg
    obtain ⟨dx3, t3', dd3, gp3⟩ := id sg3
    walk_at "go"
    refine i_eqOO gp1.ob gp3.ob ⟨_, _, rfl, p, pl, ps, rfl, wd.sg, g, .inl ⟨p3, pl, ps, rfl, sg3, g, _, rfl, ?_⟩⟩
    rw [es]
    walk_at "go"
    refine rb _ ?_
    have eT : V.str (PyData.bool true).shown = S [84, 114, 117, 101] := rfl
    have eF : V.str (PyData.bool false).shown = S [70, 97, 108, 115, 101] := rfl
    walk_at "go"
    rw [eT]
    refine i_ne_same ?_
    walk_at "go"
    refine i_tuple_lst (.inl (.inl wd.hb)) fun q1 nq1 => ?_
    have s4 := same_upd (o := HO.tup xs) nq1
    have h1 : At (upd G3 q1 (HO.tup xs)) (.ref q1) (sgT ps) := .tup upd_same (by omega) (AtAll.same wd.pr s4)
    generalize upd G3 q1 (HO.tup xs) = G4 at *
    walk_at "go"
    refine i_new (by show 2 ≤ 100000; omega) fun q2 nq2 => ?_
    have s5 := same_upd (o := HO.tup [S pl, .ref q1]) nq2
    have apl : ∀ G, At G (S pl) (dS pl) := fun G => .str pl (by have := gr.le; omega)
    have h2 : At (upd G4 q2 (HO.tup [S pl, .ref q1])) (.ref q2) (.tuple [dS pl, sgT ps]) := .tup upd_same (by decide : 2 ≤ 10000) (.cons (apl _) (.cons (h1.same s5) .nil))
    generalize upd G4 q2 (HO.tup [S pl, .ref q1]) = G5 at *
    walk_at "go"
    refine i_new (by show 0 ≤ 100000; omega) fun q3 nq3 => ?_
    have s6 := same_upd (o := HO.lst []) nq3
    have h3 : At (upd G5 q3 (HO.lst [])) (.ref q3) (.list []) := .lst upd_same (by decide : 0 ≤ 10000) .nil
    generalize upd G5 q3 (HO.lst []) = G6 at *
    walk_at "go"
    refine i_new (by show 4 ≤ 100000; omega) fun q4 nq4 => ?_
    have s7 := same_upd (o := HO.lst [S pl, .ref q2, .int 7, .ref q3]) nq4
    have h4 : (upd G6 q4 (HO.lst [S pl, .ref q2, .int 7, .ref q3])) q4 = some (HO.lst [S pl, .ref q2, .int 7, .ref q3]) := upd_same
    have ath : AtAll (upd G6 q4 (HO.lst [S pl, .ref q2, .int 7, .ref q3])) [S pl, .ref q2, .int 7, .ref q3] [dS pl, .tuple [dS pl, sgT ps], .int 7, .list []] := .cons (apl _) (.cons ((h2.same s6).same s7) (.cons (.int _) (.cons (h3.same s7) .nil)))
    generalize upd G6 q4 (HO.lst [S pl, .ref q2, .int 7, .ref q3]) = G7 at *
    have wd := wd.same ((s4.trans s5).trans (s6.trans s7))
    have sgo := sgo.same ((s4.trans s5).trans (s6.trans s7))
    have kds : ∀ e ∈ [dS pl, .tuple [dS pl, sgT ps], .int 7, .list []], kindD e ∈ ["str", "int", "tuple", "list"] := fun e he => by
      simp only [List.mem_cons, List.not_mem_nil, or_false] at he
      rcases he with rfl | rfl | rfl | rfl <;> simp [kindD]
    clear s4 s5 s6 s7 h1 h2 h3 gp3 sg3
    generalize [dS pl, .tuple [dS pl, sgT ps], .int 7, .list []] = things at *
    generalize hth : [S pl, .ref q2, .int 7, .ref q3] = ths at *
    obtain ⟨dx1, t1', dd1, gp1⟩ := id wd.sg
    walk_at "go"
    refine i_forL (a := q4) (xs := ths) (.inl (.inl h4)) (fun i σ G => ∃ v12, σ = [some (.ref d.a), some (S pl), some (.ref b), some v, some (V.str dt.shown), some (.ref p), some (S opl), some (.ref ob), some (.int kd), v9, some (.ref po), some (.bl r), v12, none, none, none, none] ∧ Same G7 G)
      ⟨none, rfl, Same.refl _⟩ (fun i σ' G _ pv => ?_) ?_ ?_
    · obtain ⟨_, _, s8⟩ := pv
      exact .inl (.inl (s8 _ _ h4))
    · rintro i x σ' G hi ⟨v12, rfl, s8⟩
      obtain ⟨e, he, ae⟩ := ath.get hi
      have ke := kds e (List.mem_of_getElem? he)
      have kt : PySem.W.kitOne K (.type (kindD e)) (.ref C_Signals) = some false := by
        have kd := ke
        simp only [List.mem_cons, List.not_mem_nil, or_false] at kd
        rcases kd with e | e | e | e <;> rw [e]
        · exact T.k_str_Signals
        · exact T.k_int_Signals
        · exact T.k_tuple_Signals
        · exact T.k_list_Signals
      have ae1 := ae.same s8
      walk_at "go"
      refine i_eqOD (s8 _ _ gp1.ob) ae1 kt ⟨_, _, rfl, p, pl, ps, rfl, wd.sg.same s8, g, .inr ⟨e, ae1, ke, _, rfl, ?_⟩⟩
      walk_at "go"
      refine rb _ ?_
      walk_at "go"
      rw [eF]
      refine i_ne_same ?_
      walk_at "go"
      exact ⟨_, rfl, s8⟩
    rintro σ' G ⟨v12, rfl, s8⟩
    have wd := wd.same s8
    have sgo := sgo.same s8
    clear s8 ath h4 gp1
    walk_at "go"
    refine ⟨P, ps, wd.td, gl, fun G' kp => ?_⟩
    have wf : Wf K C_Signals d p po b ob pl ps xs opl ops oxs G' := by
      obtain ⟨A, dr, n1, n2⟩ := wd.dr
      obtain ⟨s0, n0, hc, hl, p1, b1, u, x, sd, ha, hp⟩ := dr
      have nl : ∀ c o, G c = some o → (∀ xs, o ≠ .lst xs) → G' c = some o := fun c o e n => kp c o e (.inl n)
      have sm : SmT G G' := fun c ys e => nl c _ e nofun
      exact ⟨⟨A, fun c o e => kp c o (s0 _ _ e) (.inr (n2 c (by rw [e]; simp))), n0, hc, hl, p1, b1, u, x, sd, kp _ _ ha (.inr wd.Pd), hp⟩, sg_keep wd.sg nl, sg_keep sgo nl, kp _ _ wd.hb (.inr wd.Pb), prs_keep wd.pr sm, kp _ _ wd.ho (.inr wd.Po), prs_keep wd.po sm, wd.nb, wd.no⟩
    clear wd kp sgo
    have nmE : ∀ {G Gc : Hp}, Prs G xs ps → kept (fun _ => true) (fun i => S [(ps.getD i (0, [])).1]) xs.length = (ps.map (·.1)).map fun c => S [c] := fun _ => by
      rw [lx, kept_all]
      refine List.ext_getElem? fun i => ?_
      rw [List.getElem?_map, List.getElem?_map, List.getElem?_map]
      rcases Nat.lt_or_ge i ps.length with h | h
      · rw [List.getElem?_range h, Option.map_some, List.getD_eq_getElem?_getD, List.getElem?_eq_getElem h]
        rfl
      · rw [List.getElem?_eq_none (by simpa using h), List.getElem?_eq_none (by omega)]
        rfl
    walk_at "go"
    refine i_forR ?_
    walk_at "go"
    refine i_rngD (by decide) (by decide) (fun i σ' G => ∃ v13 v14, σ' = [some (.ref d.a), some (S pl), some (.ref b), some v, some (V.str dt.shown), some (.ref p), some (S opl), some (.ref ob), some (.int kd), v9, some (.ref po), some (.bl r), v12, v13, v14, none, none] ∧ Wf K C_Signals d p po b ob pl ps xs opl ops oxs G)
      ⟨_, _, rfl, wf⟩ ?_ ?_
    · clear wf
      rintro i0 σ' G hi0 ⟨v13, v14, rfl, wf⟩
      walk_at "go"
      refine c_lst (xs := xs) (fun R k => by walk_at "go"; exact k) (.inl (.inl wf.hb)) (by omega) (fun _ => true) (fun i => S [(ps.getD i (0, [])).1]) (fun _ => rfl) (fun i v H4 hi s4 QB k => k H4 (Same.refl H4)) (fun i x H4 hi s4 _ QV k => ?_) (fun Dl G5 n4 s4 d4 => ?_)
      · obtain ⟨pp, c, hp, rfl, hc⟩ := prs_get wf.pr hi
        have hc1 := s4 _ _ hc
        have ep : ps.getD i (0, []) = pp := by rw [List.getD_eq_getElem?_getD, hp]; rfl
        rw [ep] at k
        show (_ : TE) [some (.ref d.a), some (S pl), some (.ref b), some v, some (V.str dt.shown), some (.ref p), some (S opl), some (.ref ob), some (.int kd), v9, some (.ref po), some (.bl r), v12, some (.int (i0 : Int)), v14, none, some (.ref c)] H4 QV
        walk_at "go"
        exact k H4 (Same.refl H4)
      · rw [nmE (Gc := G) wf.pr] at d4
        have wf := wf.same s4
        walk_at "go"
        refine i_join1 (.inl (.inl d4)) (by rw [List.length_map]; omega) ?_
        walk_at "go"
        have ln : ([48] ++ ps.map (fun q : Nat × List Nat => q.1)).length = ps.length + 1 := by rw [List.length_append, List.length_map]; show 1 + _ = _; omega
        refine ⟨_, d, _, rfl, rfl, wf.max, by omega, by omega, fun A6 G6 m e sA dr6 am => ?_⟩
        have wf := wf.draw sA dr6
        have am := am.same dr6.1
        clear dr6 sA d4
        walk_at "go"
        refine ⟨p, pl, ps, e, rfl, wf.sg, am, fun G7 w1 s7 aw1 => ?_⟩
        have rs := res_ok gr g e
        have rd := rs.dep
        walk_at "go"
        refine i_reprA aw1 rs.rp (by decide) rs.nd (by omega) ?_
        walk_at "go"
        refine ⟨pl, b, xs, ps, e, rfl, rfl, (wf.same s7).hb, (wf.same s7).pr, g, gr.le, am.same s7, fun G8 w2 s8 aw2 => ?_⟩
        walk_at "go"
        refine i_reprA aw2 rs.rp (by decide) rs.nd (by omega) ?_
        refine i_ne_same ?_
        have wf := wf.same (s7.trans s8)
        have am := am.same (s7.trans s8)
        clear s7 s8 aw1 aw2 rs rd
        walk_at "go"
        refine ⟨po, opl, ops, e, rfl, wf.so, am, fun G9 w3 s9 aw3 => ?_⟩
        have rs := res_ok gro go e
        have rd := rs.dep
        walk_at "go"
        refine i_reprA aw3 rs.rp (by decide) rs.nd (by omega) ?_
        walk_at "go"
        refine ⟨opl, ob, oxs, ops, e, rfl, rfl, (wf.same s9).ho, (wf.same s9).pp, go, gro.le, am.same s9, fun G10 w4 s10 aw4 => ?_⟩
        walk_at "go"
        refine i_reprA aw4 rs.rp (by decide) rs.nd (by omega) ?_
        refine i_ne_same ?_
        walk_at "go"
        exact ⟨_, _, rfl, wf.same (s9.trans s10)⟩
    clear wf
    rintro σ' G ⟨v13, v14, rfl, wf⟩
    walk_at "go"
    intro pa dxa npa ndxa nea
    walk_at "go"
    refine mk_good (ps := []) (.inr ⟨rfl, rfl⟩) rfl gr good_nil npa ndxa nea fun G5 s5 sga => ?_
    clear npa ndxa nea
    have wf := wf.same s5
    walk_at "go"
    refine i_new (by show 0 ≤ 100000; omega) fun le nle => ?_
    have s6 := same_upd (o := HO.lst []) nle
    have hle : (upd G5 le (HO.lst [])) le = some (HO.lst []) := upd_same
    have wf := wf.same s6
    have sga := sga.same s6
    generalize upd G5 le (HO.lst []) = G6 at *
    walk_at "go"
    refine ⟨pa, pl, [], le, [], rfl, rfl, rfl, sga, good_nil, gr.row, hle, .nil, fun G7 s7 => ?_⟩
    have wf := wf.same s7
    walk_at "go"
    refine ⟨po, opl, ops, ob, oxs, rfl, rfl, rfl, wf.so, go, gro.row, wf.ho, wf.pp, fun G8 s8 => ?_⟩
    have wf := wf.same s8
    walk_at "go"
    refine ⟨p, pl, ps, b, xs, rfl, rfl, rfl, wf.sg, g, gr.row, wf.hb, wf.pr, fun G9 s9 => ?_⟩
    have wf := wf.same s9
    walk_at "go"
    exact ⟨_, d, pl, b, xs, ps, rfl, rfl, rfl, wf.max, gr, (wo_ne wf.nb).trans wf.hb, AtAll.keep wf.pr (fun c ys e => (wo_ne (fun z => by
      obtain ⟨A, dr⟩ := wf.dr
      obtain ⟨dl, hd⟩ := Dr.lst dr
      rw [z, hd] at e
      cases e)).trans e) (noL_sg ps), g, fun H' => q H'⟩
end
end K75
namespace K75
open PySem PySem.Spec PyProof.Rows L2 Fg
local macro_rules | `(tactic| walk_at "sq") => `(tactic| first
  | assumption
  | exact .inl (.inl (by assumption))
  | exact .inl (.inl upd_same))
local macro_rules | `(tactic| walk_at "st") => `(tactic| first
  | assumption
  | exact .inl (.inl (by assumption))
  | exact .inl (.inl upd_same))
local macro_rules | `(tactic| walk_at "o") => `(tactic| first
  | omega
  | assumption
  | (simp only [List.length_append, List.length_take, List.length_drop, List.length_cons, List.length_nil, List.length_singleton, List.length_map, List.length_range, Int.toNat_natCast] ; omega))
local macro_rules | `(tactic| walk_at "s") => `(tactic| first
  | (with_reducible refine i_seq ?_)
  | (with_reducible refine i_asg ?_)
  | ((with_reducible refine' i_var ?h1 ?_); (case h1 => rfl))
  | (with_reducible refine i_c ?_)
  | ((with_reducible refine' i_gname' ?h1 ?_); (case h1 => (simp only [List.set_cons_zero, List.set_cons_succ]; rfl)))
  | (with_reducible refine i_op ?_)
  | (with_reducible refine i_ifS ?_)
  | (with_reducible refine i_for ?_)
  | (with_reducible refine i_test ?_)
  | (with_reducible refine i_B ?_)
  | (with_reducible refine i_exbl ?_)
  | (with_reducible refine i_exint ?_)
  | (with_reducible refine i_cb ?_)
  | (with_reducible refine i_nil ?_)
  | (with_reducible refine i_cons ?_)
  | (with_reducible refine i_ret ?_)
  | (with_reducible refine i_sl ?_)
  | (with_reducible refine i_nopart ?_)
  | (with_reducible refine i_part ?_)
  | (with_reducible refine i_add_int ?_)
  | (with_reducible refine i_sub ?_)
  | (with_reducible refine i_lt ?_)
  | ((with_reducible refine' i_mod ?h1 ?_); (case h1 => walk_at "o"))
  | ((with_reducible refine' i_fdiv ?h1 ?_); (case h1 => (refine cdiv_small ?_ ?_ <;> walk_at "o")))
  | ((with_reducible refine' i_sl_to ?h1 ?h2 ?_); (case h1 => walk_at "o"); (case h2 => walk_at "o"))
  | ((with_reducible refine' i_sl_from ?h1 ?h2 ?_); (case h1 => walk_at "o"); (case h2 => walk_at "o"))
  | ((with_reducible refine' i_add_str ?h1 ?_); (case h1 => walk_at "o"))
  | ((with_reducible refine' i_mul_int ?h1 ?_); (case h1 => first | (refine mul_small ?_ ?_ <;> walk_at "o") | (refine mul_smallR ?_ ?_ <;> walk_at "o")))
  | (with_reducible refine i_le ?_)
  | (with_reducible refine i_gt ?_)
  | (with_reducible refine i_ge ?_)
  | (with_reducible refine i_eq_int ?_)
  | (with_reducible refine i_eq_str ?_)
  | (with_reducible refine i_ne_int ?_)
  | (with_reducible refine i_ne_str ?_)
  | (with_reducible refine i_eq_bl ?_)
  | (with_reducible refine i_ne_bl ?_)
  | (with_reducible refine i_in_sg ?_)
  | (with_reducible refine i_notIn_sg ?_)
  | (with_reducible refine i_call ?_)
  | (with_reducible refine i_callS ?_)
  | (with_reducible refine i_sp1 ?_)
  | (with_reducible refine i_sp2 ?_)
  | (with_reducible refine i_sp3 ?_)
  | (with_reducible refine i_sp4 ?_)
  | (with_reducible refine i_sp1' ?_)
  | (with_reducible refine i_sp2' ?_)
  | (with_reducible refine i_sp3' ?_)
  | ((with_reducible refine' i_ix_lst ?h1 ?h2 ?_); (case h1 => walk_at "sq"); (case h2 => first | exact atI_nat rfl | rfl))
  | ((with_reducible refine' i_ix_tup ?h1 ?h2 ?_); (case h1 => walk_at "st"); (case h2 => first | exact atI_nat rfl | rfl))
  | (with_reducible refine i_gsub ?_)
  | (with_reducible refine i_par ?_)
  | (with_reducible refine i_lstRg1 ?_)
  | (with_reducible refine i_app ?_)
  | (with_reducible refine i_par2 ?_)
  | ((with_reducible refine' i_aug ?h1 ?_); (case h1 => rfl))
  | (with_reducible refine i_ipI ?_)
  | ((with_reducible refine' i_gtup2 ?h1 ?_); (case h1 => walk_at "st"))
  | (with_reducible refine i_int_bl ?_)
  | (with_reducible refine i_raise ?_)
  | (with_reducible refine i_mkE ?_)
  | (with_reducible refine i_ex1 ?_)
  | (with_reducible refine i_and ?_)
  | (with_reducible refine i_or ?_)
  | (with_reducible refine i_not ?_)
  | (with_reducible refine i_tt ?_)
  | (with_reducible refine i_ff ?_)
  | (with_reducible refine i_nott ?_)
  | (with_reducible refine i_notf ?_)
  | (with_reducible refine i_andV ?_)
  | (with_reducible refine i_orV ?_)
  | (with_reducible refine i_notV ?_)
  | (with_reducible refine i_ifE ?_)
  | (with_reducible refine i_tup ?_)
  | (with_reducible refine i_lst ?_)
  | (with_reducible refine i_un ?_)
  | (with_reducible refine i_neg ?_)
  | (with_reducible refine i_chain ?_)
  | (with_reducible refine i_next ?_)
  | (with_reducible refine i_retN ?_)
  | (with_reducible refine i_drop ?_)
  | (with_reducible refine i_int_int ?_)
  | (with_reducible refine i_abs ?_)
  | (with_reducible refine i_m1c ?_)
  | (with_reducible refine i_is_non ?_)
  | (with_reducible refine i_is_int ?_)
  | (with_reducible refine i_is_bl ?_)
  | (with_reducible refine i_isn_bl ?_)
  | (with_reducible refine i_is_str ?_)
  | (with_reducible refine i_is_ref ?_)
  | (with_reducible refine i_isn_non ?_)
  | (with_reducible refine i_isn_int ?_)
  | (with_reducible refine i_isn_str ?_)
  | (with_reducible refine i_isn_ref ?_)
  | (with_reducible refine i_len_str ?h1 ?_; (case h1 => walk_at "o"))
  | (with_reducible refine i_callD ?_)
  | (with_reducible refine i_spD2 ?_)
  | (with_reducible refine i_spM1 ?_)
  | (with_reducible refine i_spM2 ?_)
  | (with_reducible refine i_spM3 ?_)
  | (with_reducible refine i_spM4 ?_)
  | (with_reducible refine i_spM3d ?_)
  | (with_reducible refine i_tfld ?_)
  | (with_reducible refine i_sfld ?_)
  | (with_reducible refine i_meth ?_)
  | (with_reducible refine i_make ?_)
  | (with_reducible refine i_spl ?_)
  | (with_reducible refine i_mkE2 ?_)
  | (with_reducible refine i_ex2 ?_)
  | (with_reducible refine i_dget ?_)
  | (with_reducible refine i_tru ?_)
  | (with_reducible refine i_dput ?_)
  | (with_reducible refine i_dnotin ?_)
  | (with_reducible refine i_din ?_)
  | (with_reducible refine i_rev ?_)
  | (with_reducible refine i_isi_int_int ?_) | (with_reducible refine i_isi_int_bool ?_) | (with_reducible refine i_isi_int_str ?_) | (with_reducible refine i_isi_int_tuple ?_) | (with_reducible refine i_isi_int_list ?_)
  | (with_reducible refine i_isi_bl_int ?_) | (with_reducible refine i_isi_bl_bool ?_) | (with_reducible refine i_isi_bl_str ?_) | (with_reducible refine i_isi_bl_tuple ?_) | (with_reducible refine i_isi_bl_list ?_)
  | (with_reducible refine i_isi_str_int ?_) | (with_reducible refine i_isi_str_bool ?_) | (with_reducible refine i_isi_str_str ?_) | (with_reducible refine i_isi_str_tuple ?_) | (with_reducible refine i_isi_str_list ?_)
  | (with_reducible refine i_isi_non_int ?_) | (with_reducible refine i_isi_non_bool ?_) | (with_reducible refine i_isi_non_str ?_) | (with_reducible refine i_isi_non_tuple ?_) | (with_reducible refine i_isi_non_list ?_))
local macro_rules | `(tactic| walk_at "go") => `(tactic| (repeat' (walk_at "s")))
local macro_rules | `(tactic| walk_at "n") => `(tactic| simp only [wipe, List.map_cons, List.map_nil, List.set_cons_zero, List.set_cons_succ])
section
variable {P : Program} {w : World} {K : PySem.W.Frag} {mg : Str → Option Value} {base : Heap} {C_GlimError C_BadRow C_BadRound C_BadSignal C_BadMessage C_Signals C_dt_Signals___init__ : Addr}
def p_law (K : PySem.W.Frag) : P1 := fun x H Q _ => ∃ (a : Addr) (ns : List Int), x = .ref a ∧ SqL K H a (ns.map V.int) ∧ ns.length ≤ 63 ∧ ∀ H', Q (.bl true) H'
theorem ok_law_at {f : Addr} {fd : FuncData} (F : Fun K "law" "law" s_law f fd) (T : Txt K mg C_GlimError C_BadRow C_BadRound C_BadSignal C_BadMessage C_Signals C_dt_Signals___init__) : GOk P w K mg base CX0 12 f fd ["_law_script"] (sp1 (p_law K)) := by
  refine FnGOk.mk (k := 11) F sc_law len1 fun cdv A outer s H vs Q E hgu hr h => ?_
  obtain ⟨x, rfl, h⟩ := h
  refine ⟨_, (pss_one (ps_try_only rfl rfl ⟨rfl, by decide, Or.inl T.c_GlimError⟩ takes0 (fun W pn xe tk _ => (pss_one (ps_ret (pe_g (ok_L_asked (K := K) T) hgu (hr.mono (by decide)) pass0 (pa_cons (pe_f (ok_L_draw (K := K) T) (hr.mono (by decide)) pass0 (pa_cons (pv 0) pa_nil)) pa_nil))))) (fun a oe cls d pn hz hf => (pss_one (ps_ret pe_bl))))), ?_⟩
  show (_ : TS) { nx := fun _ H' => Q .non H', rt := Q } [some x] H
  obtain ⟨a, ns, rfl, hS, hl, q⟩ := h
  walk_at "go"
  refine ⟨a, ns, rfl, hS, by omega, fun H0 d H1 s0 dr => ?_⟩
  walk_at "go"
  exact ⟨H0, d, rfl, dr, fun H' => q H'⟩
end
end K75
namespace K75
open PySem PySem.Spec PyProof.Rows L2 Fg
theorem all_mk {l : PySem.W.OpenLaw} {w : World} {K : PySem.W.Frag} {h : Heap} {mg : Str → Option Value} {fa C_GlimError C_BadRow C_BadRound C_BadSignal C_BadMessage C_Signals C_dt_Signals___init__ f1 f2 f3 f4 f5 f6 f7 f8 f9 f10 f11 f12 f13 f14 f15 f16 f17 f18 f19 f20 f21 f22 f23 f24 f25 f26 f27 f28 f29 f30 f31 f32 f33 f34 f35 f36 f37 f38 f39 f40 f41 f42 : Addr} (X : K.In h) (G : h.Ns mainGlobals mg) (hfa : mg "law" = some (.ref fa))
    {od1 an1 od2 an2 od3 an3 od4 an4 od5 an5 od6 an6 od7 an7 od8 an8 od9 an9 od10 an10 od11 an11 od12 an12 od13 an13 od14 an14 od15 an15 od16 an16 od17 an17 od18 an18 od19 an19 od20 an20 od21 an21 od22 an22 od23 an23 od24 an24 od25 an25 od26 an26 od27 an27 od28 an28 od29 an29 od30 an30 od31 an31 od32 an32 od33 an33 od34 an34 od35 an35 od36 an36 od37 an37 od38 an38 od39 an39 od40 an40 od41 an41 od42 an42 : Option Addr} {sl1 sl2 sl3 sl4 sl5 sl6 sl7 sl8 sl9 sl10 sl11 sl12 sl13 sl14 sl15 sl16 sl17 sl18 sl19 sl20 sl21 sl22 sl23 sl24 sl25 sl26 sl27 sl28 sl29 sl30 sl31 sl32 sl33 sl34 sl35 sl36 sl37 sl38 sl39 sl40 sl41 sl42 : Array (Option Value)} {oc1 kV1 dc1 pm1 cd1 ct1 oc2 kV2 dc2 pm2 cd2 ct2 oc3 kV3 dc3 pm3 cd3 ct3 oc4 kV4 dc4 pm4 cd4 ct4 oc5 kV5 dc5 pm5 cd5 ct5 oc6 kV6 dc6 pm6 cd6 ct6 oc7 kV7 dc7 pm7 cd7 ct7 oc8 kV8 dc8 pm8 cd8 ct8 oc9 kV9 dc9 pm9 cd9 ct9 oc10 kV10 dc10 pm10 cd10 ct10 oc11 kV11 dc11 pm11 cd11 ct11 oc12 kV12 dc12 pm12 cd12 ct12 oc13 kV13 dc13 pm13 cd13 ct13 oc14 kV14 dc14 pm14 cd14 ct14 oc15 kV15 dc15 pm15 cd15 ct15 oc16 kV16 dc16 pm16 cd16 ct16 oc17 kV17 dc17 pm17 cd17 ct17 oc18 kV18 dc18 pm18 cd18 ct18 oc19 kV19 dc19 pm19 cd19 ct19 oc20 kV20 dc20 pm20 cd20 ct20 oc21 kV21 dc21 pm21 cd21 ct21 oc22 kV22 dc22 pm22 cd22 ct22 oc23 kV23 dc23 pm23 cd23 ct23 oc24 kV24 dc24 pm24 cd24 ct24 oc25 kV25 dc25 pm25 cd25 ct25 oc26 kV26 dc26 pm26 cd26 ct26 oc27 kV27 dc27 pm27 cd27 ct27 oc28 kV28 dc28 pm28 cd28 ct28 oc29 kV29 dc29 pm29 cd29 ct29 oc30 kV30 dc30 pm30 cd30 ct30 oc31 kV31 dc31 pm31 cd31 ct31 oc32 kV32 dc32 pm32 cd32 ct32 oc33 kV33 dc33 pm33 cd33 ct33 oc34 kV34 dc34 pm34 cd34 ct34 oc35 kV35 dc35 pm35 cd35 ct35 oc36 kV36 dc36 pm36 cd36 ct36 oc37 kV37 dc37 pm37 cd37 ct37 oc38 kV38 dc38 pm38 cd38 ct38 oc39 kV39 dc39 pm39 cd39 ct39 oc40 kV40 dc40 pm40 cd40 ct40 oc41 kV41 dc41 pm41 cd41 ct41 oc42 kV42 dc42 pm42 cd42 ct42 : Value}
    {nm_BadMessage q_BadMessage : Str} {N_BadMessage : Addr} {bs_BadMessage bm_BadMessage : List Value} {sn_BadMessage : List Str} {sub_BadMessage : List Value} {ab_BadMessage : Bool} {col_BadMessage : Option Bool} {dd_BadMessage : Option Addr} {m0_BadMessage m1_BadMessage m2_BadMessage m3_BadMessage m5_BadMessage : Option Value}
    {nm_BadSignal q_BadSignal : Str} {N_BadSignal : Addr} {bs_BadSignal bm_BadSignal : List Value} {sn_BadSignal : List Str} {sub_BadSignal : List Value} {ab_BadSignal : Bool} {col_BadSignal : Option Bool} {dd_BadSignal : Option Addr} {m0_BadSignal m1_BadSignal m2_BadSignal m3_BadSignal m5_BadSignal : Option Value}
    {nm_BadRound q_BadRound : Str} {N_BadRound : Addr} {bs_BadRound bm_BadRound : List Value} {sn_BadRound : List Str} {sub_BadRound : List Value} {ab_BadRound : Bool} {col_BadRound : Option Bool} {dd_BadRound : Option Addr} {m0_BadRound m1_BadRound m2_BadRound m3_BadRound m5_BadRound : Option Value}
    {nm_BadRow q_BadRow : Str} {N_BadRow : Addr} {bs_BadRow bm_BadRow : List Value} {sn_BadRow : List Str} {sub_BadRow : List Value} {ab_BadRow : Bool} {col_BadRow : Option Bool} {dd_BadRow : Option Addr} {m0_BadRow m1_BadRow m2_BadRow m3_BadRow m5_BadRow : Option Value}
    {t_SIGNS t_LETTERS t_MOST_LEVELS t_MOST_ROUND t_PLAIN t_MOST_SIGNALS t_MOST_WORD t_MOST_PIECES : Tok}
    {dt_dt_Signals___init__ : Option Addr} {nt_dt_Signals___init__ : Nat} {st_dt_Signals___init__ : Array (Option Value)}
    {pp15 : Addr} {pz15 : List Value}
    {D10 : Addr} {oD10 : Value} {dD10 : Option Addr} {nD10 : Nat} {sD10 : Array (Option Value)}
    {D1 : Addr} {oD1 : Value} {dD1 : Option Addr} {nD1 : Nat} {sD1 : Array (Option Value)} {td1_0 : Tok}
    (a1 : PySem.W.nsIn K mainGlobals "deep" = some (some (.ref f1)))
    (l1 : K.lookup f1 = some ⟨oc1, od1, .func (PySem.W.fnOf "deep" "deep" (defArgs s_deep) (defBody s_deep) (defScope s_deep) (.ref D1) kV1 dc1 pm1 an1 cd1 ct1), sl1⟩)
    (c1 : PySem.W.codeIn K cd1 "deep" = true)
    (k1 : PySem.W.keepIn K (.ref f1) = true)
    (e1 : K.lookup D1 = some ⟨oD1, dD1, .seq #[.int (0) td1_0] nD1, sD1⟩)
    (a2 : PySem.W.nsIn K mainGlobals "wrong_sign" = some (some (.ref f2)))
    (l2 : K.lookup f2 = some ⟨oc2, od2, .func (PySem.W.fnOf "wrong_sign" "wrong_sign" (defArgs s_wrong_sign) (defBody s_wrong_sign) (defScope s_wrong_sign) .none kV2 dc2 pm2 an2 cd2 ct2), sl2⟩)
    (c2 : PySem.W.codeIn K cd2 "wrong_sign" = true)
    (k2 : PySem.W.keepIn K (.ref f2) = true)
    (a3 : PySem.W.nsIn K mainGlobals "is_row" = some (some (.ref f3)))
    (l3 : K.lookup f3 = some ⟨oc3, od3, .func (PySem.W.fnOf "is_row" "is_row" (defArgs s_is_row) (defBody s_is_row) (defScope s_is_row) .none kV3 dc3 pm3 an3 cd3 ct3), sl3⟩)
    (c3 : PySem.W.codeIn K cd3 "is_row" = true)
    (k3 : PySem.W.keepIn K (.ref f3) = true)
    (a4 : PySem.W.nsIn K mainGlobals "is_letter" = some (some (.ref f4)))
    (l4 : K.lookup f4 = some ⟨oc4, od4, .func (PySem.W.fnOf "is_letter" "is_letter" (defArgs s_is_letter) (defBody s_is_letter) (defScope s_is_letter) .none kV4 dc4 pm4 an4 cd4 ct4), sl4⟩)
    (c4 : PySem.W.codeIn K cd4 "is_letter" = true)
    (k4 : PySem.W.keepIn K (.ref f4) = true)
    (a5 : PySem.W.nsIn K mainGlobals "check_round" = some (some (.ref f5)))
    (l5 : K.lookup f5 = some ⟨oc5, od5, .func (PySem.W.fnOf "check_round" "check_round" (defArgs s_check_round) (defBody s_check_round) (defScope s_check_round) .none kV5 dc5 pm5 an5 cd5 ct5), sl5⟩)
    (c5 : PySem.W.codeIn K cd5 "check_round" = true)
    (k5 : PySem.W.keepIn K (.ref f5) = true)
    (a6 : PySem.W.nsIn K mainGlobals "is_signal" = some (some (.ref f6)))
    (l6 : K.lookup f6 = some ⟨oc6, od6, .func (PySem.W.fnOf "is_signal" "is_signal" (defArgs s_is_signal) (defBody s_is_signal) (defScope s_is_signal) .none kV6 dc6 pm6 an6 cd6 ct6), sl6⟩)
    (c6 : PySem.W.codeIn K cd6 "is_signal" = true)
    (k6 : PySem.W.keepIn K (.ref f6) = true)
    (a7 : PySem.W.nsIn K mainGlobals "check_signals" = some (some (.ref f7)))
    (l7 : K.lookup f7 = some ⟨oc7, od7, .func (PySem.W.fnOf "check_signals" "check_signals" (defArgs s_check_signals) (defBody s_check_signals) (defScope s_check_signals) .none kV7 dc7 pm7 an7 cd7 ct7), sl7⟩)
    (c7 : PySem.W.codeIn K cd7 "check_signals" = true)
    (k7 : PySem.W.keepIn K (.ref f7) = true)
    (a8 : PySem.W.nsIn K mainGlobals "wrong_piece" = some (some (.ref f8)))
    (l8 : K.lookup f8 = some ⟨oc8, od8, .func (PySem.W.fnOf "wrong_piece" "wrong_piece" (defArgs s_wrong_piece) (defBody s_wrong_piece) (defScope s_wrong_piece) .none kV8 dc8 pm8 an8 cd8 ct8), sl8⟩)
    (c8 : PySem.W.codeIn K cd8 "wrong_piece" = true)
    (k8 : PySem.W.keepIn K (.ref f8) = true)
    (a9 : PySem.W.nsIn K mainGlobals "message_row" = some (some (.ref f9)))
    (l9 : K.lookup f9 = some ⟨oc9, od9, .func (PySem.W.fnOf "message_row" "message_row" (defArgs s_message_row) (defBody s_message_row) (defScope s_message_row) .none kV9 dc9 pm9 an9 cd9 ct9), sl9⟩)
    (c9 : PySem.W.codeIn K cd9 "message_row" = true)
    (k9 : PySem.W.keepIn K (.ref f9) = true)
    (a10 : PySem.W.findIn K (.ref C_Signals) "__init__" = some (some (.ref f10)))
    (i10 : PySem.W.isFn K (.ref f10) = true)
    (l10 : K.lookup f10 = some ⟨oc10, od10, .func (PySem.W.fnOf "__init__" "Signals.__init__" (defArgs s_Signals___init__) (defBody s_Signals___init__) (defScope s_Signals___init__) (.ref D10) kV10 dc10 pm10 an10 cd10 ct10), sl10⟩)
    (c10 : PySem.W.codeIn K cd10 "Signals.__init__" = true)
    (k10 : PySem.W.keepIn K (.ref f10) = true)
    (e10 : K.lookup D10 = some ⟨oD10, dD10, .seq #[.ref C_dt_Signals___init__] nD10, sD10⟩)
    (a11 : PySem.W.findIn K (.ref C_Signals) "__len__" = some (some (.ref f11)))
    (i11 : PySem.W.isFn K (.ref f11) = true)
    (l11 : K.lookup f11 = some ⟨oc11, od11, .func (PySem.W.fnOf "__len__" "Signals.__len__" (defArgs s_Signals___len__) (defBody s_Signals___len__) (defScope s_Signals___len__) .none kV11 dc11 pm11 an11 cd11 ct11), sl11⟩)
    (c11 : PySem.W.codeIn K cd11 "Signals.__len__" = true)
    (k11 : PySem.W.keepIn K (.ref f11) = true)
    (a12 : PySem.W.findIn K (.ref C_Signals) "__iter__" = some (some (.ref f12)))
    (i12 : PySem.W.isFn K (.ref f12) = true)
    (l12 : K.lookup f12 = some ⟨oc12, od12, .func (PySem.W.fnOf "__iter__" "Signals.__iter__" (defArgs s_Signals___iter__) (defBody s_Signals___iter__) (defScope s_Signals___iter__) .none kV12 dc12 pm12 an12 cd12 ct12), sl12⟩)
    (c12 : PySem.W.codeIn K cd12 "Signals.__iter__" = true)
    (k12 : PySem.W.keepIn K (.ref f12) = true)
    (a13 : PySem.W.findIn K (.ref C_Signals) "__eq__" = some (some (.ref f13)))
    (i13 : PySem.W.isFn K (.ref f13) = true)
    (l13 : K.lookup f13 = some ⟨oc13, od13, .func (PySem.W.fnOf "__eq__" "Signals.__eq__" (defArgs s_Signals___eq__) (defBody s_Signals___eq__) (defScope s_Signals___eq__) .none kV13 dc13 pm13 an13 cd13 ct13), sl13⟩)
    (c13 : PySem.W.codeIn K cd13 "Signals.__eq__" = true)
    (k13 : PySem.W.keepIn K (.ref f13) = true)
    (a14 : PySem.W.findIn K (.ref C_Signals) "__call__" = some (some (.ref f14)))
    (i14 : PySem.W.isFn K (.ref f14) = true)
    (l14 : K.lookup f14 = some ⟨oc14, od14, .func (PySem.W.fnOf "__call__" "Signals.__call__" (defArgs s_Signals___call__) (defBody s_Signals___call__) (defScope s_Signals___call__) .none kV14 dc14 pm14 an14 cd14 ct14), sl14⟩)
    (c14 : PySem.W.codeIn K cd14 "Signals.__call__" = true)
    (k14 : PySem.W.keepIn K (.ref f14) = true)
    (a15 : PySem.W.findIn K (.ref C_Signals) "pieces" = some (some (.ref pp15)))
    (pg15 : PySem.W.specialIn K (.ref pp15) "__get__" = some (some (.builtin "property.__get__")))
    (pt15 : PySem.W.takesIn K (.ref pp15) = some true)
    (pr15 : PySem.W.recIn K pp15 "property" = some (.ref f15 :: pz15))
    (l15 : K.lookup f15 = some ⟨oc15, od15, .func (PySem.W.fnOf "pieces" "Signals.pieces" (defArgs s_Signals_pieces) (defBody s_Signals_pieces) (defScope s_Signals_pieces) .none kV15 dc15 pm15 an15 cd15 ct15), sl15⟩)
    (c15 : PySem.W.codeIn K cd15 "Signals.pieces" = true)
    (k15 : PySem.W.keepIn K (.ref f15) = true)
    (a16 : PySem.W.nsIn K mainGlobals "_law_draw" = some (some (.ref f16)))
    (l16 : K.lookup f16 = some ⟨oc16, od16, .func (PySem.W.fnOf "_law_draw" "_law_draw" (defArgs s_L_draw) (defBody s_L_draw) (defScope s_L_draw) .none kV16 dc16 pm16 an16 cd16 ct16), sl16⟩)
    (c16 : PySem.W.codeIn K cd16 "_law_draw" = true)
    (k16 : PySem.W.keepIn K (.ref f16) = true)
    (a17 : PySem.W.nsIn K mainGlobals "_law_mix" = some (some (.ref f17)))
    (l17 : K.lookup f17 = some ⟨oc17, od17, .func (PySem.W.fnOf "_law_mix" "_law_mix" (defArgs s_L_mix) (defBody s_L_mix) (defScope s_L_mix) .none kV17 dc17 pm17 an17 cd17 ct17), sl17⟩)
    (c17 : PySem.W.codeIn K cd17 "_law_mix" = true)
    (k17 : PySem.W.keepIn K (.ref f17) = true)
    (a18 : PySem.W.nsIn K mainGlobals "_law_pick" = some (some (.ref f18)))
    (l18 : K.lookup f18 = some ⟨oc18, od18, .func (PySem.W.fnOf "_law_pick" "_law_pick" (defArgs s_L_pick) (defBody s_L_pick) (defScope s_L_pick) .none kV18 dc18 pm18 an18 cd18 ct18), sl18⟩)
    (c18 : PySem.W.codeIn K cd18 "_law_pick" = true)
    (k18 : PySem.W.keepIn K (.ref f18) = true)
    (a19 : PySem.W.nsIn K mainGlobals "_law_sign" = some (some (.ref f19)))
    (l19 : K.lookup f19 = some ⟨oc19, od19, .func (PySem.W.fnOf "_law_sign" "_law_sign" (defArgs s_L_sign) (defBody s_L_sign) (defScope s_L_sign) .none kV19 dc19 pm19 an19 cd19 ct19), sl19⟩)
    (c19 : PySem.W.codeIn K cd19 "_law_sign" = true)
    (k19 : PySem.W.keepIn K (.ref f19) = true)
    (a20 : PySem.W.nsIn K mainGlobals "_law_round" = some (some (.ref f20)))
    (l20 : K.lookup f20 = some ⟨oc20, od20, .func (PySem.W.fnOf "_law_round" "_law_round" (defArgs s_L_round) (defBody s_L_round) (defScope s_L_round) .none kV20 dc20 pm20 an20 cd20 ct20), sl20⟩)
    (c20 : PySem.W.codeIn K cd20 "_law_round" = true)
    (k20 : PySem.W.keepIn K (.ref f20) = true)
    (a21 : PySem.W.nsIn K mainGlobals "_law_bent" = some (some (.ref f21)))
    (l21 : K.lookup f21 = some ⟨oc21, od21, .func (PySem.W.fnOf "_law_bent" "_law_bent" (defArgs s_L_bent) (defBody s_L_bent) (defScope s_L_bent) .none kV21 dc21 pm21 an21 cd21 ct21), sl21⟩)
    (c21 : PySem.W.codeIn K cd21 "_law_bent" = true)
    (k21 : PySem.W.keepIn K (.ref f21) = true)
    (a22 : PySem.W.nsIn K mainGlobals "_law_letter" = some (some (.ref f22)))
    (l22 : K.lookup f22 = some ⟨oc22, od22, .func (PySem.W.fnOf "_law_letter" "_law_letter" (defArgs s_L_letter) (defBody s_L_letter) (defScope s_L_letter) .none kV22 dc22 pm22 an22 cd22 ct22), sl22⟩)
    (c22 : PySem.W.codeIn K cd22 "_law_letter" = true)
    (k22 : PySem.W.keepIn K (.ref f22) = true)
    (a23 : PySem.W.nsIn K mainGlobals "_law_talk" = some (some (.ref f23)))
    (l23 : K.lookup f23 = some ⟨oc23, od23, .func (PySem.W.fnOf "_law_talk" "_law_talk" (defArgs s_L_talk) (defBody s_L_talk) (defScope s_L_talk) .none kV23 dc23 pm23 an23 cd23 ct23), sl23⟩)
    (c23 : PySem.W.codeIn K cd23 "_law_talk" = true)
    (k23 : PySem.W.keepIn K (.ref f23) = true)
    (a24 : PySem.W.nsIn K mainGlobals "_law_formed" = some (some (.ref f24)))
    (l24 : K.lookup f24 = some ⟨oc24, od24, .func (PySem.W.fnOf "_law_formed" "_law_formed" (defArgs s_L_formed) (defBody s_L_formed) (defScope s_L_formed) .none kV24 dc24 pm24 an24 cd24 ct24), sl24⟩)
    (c24 : PySem.W.codeIn K cd24 "_law_formed" = true)
    (k24 : PySem.W.keepIn K (.ref f24) = true)
    (a25 : PySem.W.nsIn K mainGlobals "_law_odd_round" = some (some (.ref f25)))
    (l25 : K.lookup f25 = some ⟨oc25, od25, .func (PySem.W.fnOf "_law_odd_round" "_law_odd_round" (defArgs s_L_odd_round) (defBody s_L_odd_round) (defScope s_L_odd_round) .none kV25 dc25 pm25 an25 cd25 ct25), sl25⟩)
    (c25 : PySem.W.codeIn K cd25 "_law_odd_round" = true)
    (k25 : PySem.W.keepIn K (.ref f25) = true)
    (a26 : PySem.W.nsIn K mainGlobals "_law_odd_signal" = some (some (.ref f26)))
    (l26 : K.lookup f26 = some ⟨oc26, od26, .func (PySem.W.fnOf "_law_odd_signal" "_law_odd_signal" (defArgs s_L_odd_signal) (defBody s_L_odd_signal) (defScope s_L_odd_signal) .none kV26 dc26 pm26 an26 cd26 ct26), sl26⟩)
    (c26 : PySem.W.codeIn K cd26 "_law_odd_signal" = true)
    (k26 : PySem.W.keepIn K (.ref f26) = true)
    (a27 : PySem.W.nsIn K mainGlobals "_law_odd_signals" = some (some (.ref f27)))
    (l27 : K.lookup f27 = some ⟨oc27, od27, .func (PySem.W.fnOf "_law_odd_signals" "_law_odd_signals" (defArgs s_L_odd_signals) (defBody s_L_odd_signals) (defScope s_L_odd_signals) .none kV27 dc27 pm27 an27 cd27 ct27), sl27⟩)
    (c27 : PySem.W.codeIn K cd27 "_law_odd_signals" = true)
    (k27 : PySem.W.keepIn K (.ref f27) = true)
    (a28 : PySem.W.nsIn K mainGlobals "_law_wrong_sign" = some (some (.ref f28)))
    (l28 : K.lookup f28 = some ⟨oc28, od28, .func (PySem.W.fnOf "_law_wrong_sign" "_law_wrong_sign" (defArgs s_L_wrong_sign) (defBody s_L_wrong_sign) (defScope s_L_wrong_sign) .none kV28 dc28 pm28 an28 cd28 ct28), sl28⟩)
    (c28 : PySem.W.codeIn K cd28 "_law_wrong_sign" = true)
    (k28 : PySem.W.keepIn K (.ref f28) = true)
    (a29 : PySem.W.nsIn K mainGlobals "_law_wrong_signal" = some (some (.ref f29)))
    (l29 : K.lookup f29 = some ⟨oc29, od29, .func (PySem.W.fnOf "_law_wrong_signal" "_law_wrong_signal" (defArgs s_L_wrong_signal) (defBody s_L_wrong_signal) (defScope s_L_wrong_signal) .none kV29 dc29 pm29 an29 cd29 ct29), sl29⟩)
    (c29 : PySem.W.codeIn K cd29 "_law_wrong_signal" = true)
    (k29 : PySem.W.keepIn K (.ref f29) = true)
    (a30 : PySem.W.nsIn K mainGlobals "_law_made" = some (some (.ref f30)))
    (l30 : K.lookup f30 = some ⟨oc30, od30, .func (PySem.W.fnOf "_law_made" "_law_made" (defArgs s_L_made) (defBody s_L_made) (defScope s_L_made) .none kV30 dc30 pm30 an30 cd30 ct30), sl30⟩)
    (c30 : PySem.W.codeIn K cd30 "_law_made" = true)
    (k30 : PySem.W.keepIn K (.ref f30) = true)
    (a31 : PySem.W.nsIn K mainGlobals "_law_is_refused_well" = some (some (.ref f31)))
    (l31 : K.lookup f31 = some ⟨oc31, od31, .func (PySem.W.fnOf "_law_is_refused_well" "_law_is_refused_well" (defArgs s_L_is_refused_well) (defBody s_L_is_refused_well) (defScope s_L_is_refused_well) .none kV31 dc31 pm31 an31 cd31 ct31), sl31⟩)
    (c31 : PySem.W.codeIn K cd31 "_law_is_refused_well" = true)
    (k31 : PySem.W.keepIn K (.ref f31) = true)
    (a32 : PySem.W.nsIn K mainGlobals "_law_message" = some (some (.ref f32)))
    (l32 : K.lookup f32 = some ⟨oc32, od32, .func (PySem.W.fnOf "_law_message" "_law_message" (defArgs s_L_message) (defBody s_L_message) (defScope s_L_message) .none kV32 dc32 pm32 an32 cd32 ct32), sl32⟩)
    (c32 : PySem.W.codeIn K cd32 "_law_message" = true)
    (k32 : PySem.W.keepIn K (.ref f32) = true)
    (a33 : PySem.W.nsIn K mainGlobals "_law_row_due" = some (some (.ref f33)))
    (l33 : K.lookup f33 = some ⟨oc33, od33, .func (PySem.W.fnOf "_law_row_due" "_law_row_due" (defArgs s_L_row_due) (defBody s_L_row_due) (defScope s_L_row_due) .none kV33 dc33 pm33 an33 cd33 ct33), sl33⟩)
    (c33 : PySem.W.codeIn K cd33 "_law_row_due" = true)
    (k33 : PySem.W.keepIn K (.ref f33) = true)
    (a34 : PySem.W.nsIn K mainGlobals "_law_row_told" = some (some (.ref f34)))
    (l34 : K.lookup f34 = some ⟨oc34, od34, .func (PySem.W.fnOf "_law_row_told" "_law_row_told" (defArgs s_L_row_told) (defBody s_L_row_told) (defScope s_L_row_told) .none kV34 dc34 pm34 an34 cd34 ct34), sl34⟩)
    (c34 : PySem.W.codeIn K cd34 "_law_row_told" = true)
    (k34 : PySem.W.keepIn K (.ref f34) = true)
    (a35 : PySem.W.nsIn K mainGlobals "_law_is_told" = some (some (.ref f35)))
    (l35 : K.lookup f35 = some ⟨oc35, od35, .func (PySem.W.fnOf "_law_is_told" "_law_is_told" (defArgs s_L_is_told) (defBody s_L_is_told) (defScope s_L_is_told) .none kV35 dc35 pm35 an35 cd35 ct35), sl35⟩)
    (c35 : PySem.W.codeIn K cd35 "_law_is_told" = true)
    (k35 : PySem.W.keepIn K (.ref f35) = true)
    (a36 : PySem.W.nsIn K mainGlobals "_law_spoil" = some (some (.ref f36)))
    (l36 : K.lookup f36 = some ⟨oc36, od36, .func (PySem.W.fnOf "_law_spoil" "_law_spoil" (defArgs s_L_spoil) (defBody s_L_spoil) (defScope s_L_spoil) .none kV36 dc36 pm36 an36 cd36 ct36), sl36⟩)
    (c36 : PySem.W.codeIn K cd36 "_law_spoil" = true)
    (k36 : PySem.W.keepIn K (.ref f36) = true)
    (a37 : PySem.W.nsIn K mainGlobals "_law_asked" = some (some (.ref f37)))
    (l37 : K.lookup f37 = some ⟨oc37, od37, .func (PySem.W.fnOf "_law_asked" "_law_asked" (defArgs s_L_asked) (defBody s_L_asked) (defScope s_L_asked) .none kV37 dc37 pm37 an37 cd37 ct37), sl37⟩)
    (c37 : PySem.W.codeIn K cd37 "_law_asked" = true)
    (k37 : PySem.W.keepIn K (.ref f37) = true)
    (a38 : PySem.W.nsIn K mainGlobals "law" = some (some (.ref f38)))
    (l38 : K.lookup f38 = some ⟨oc38, od38, .func (PySem.W.fnOf "law" "law" (defArgs s_law) (defBody s_law) (defScope s_law) .none kV38 dc38 pm38 an38 cd38 ct38), sl38⟩)
    (c38 : PySem.W.codeIn K cd38 "law" = true)
    (k38 : PySem.W.keepIn K (.ref f38) = true)
    (lt_dt_Signals___init__ : K.lookup C_dt_Signals___init__ = some ⟨.type "tuple", dt_dt_Signals___init__, .seq #[] nt_dt_Signals___init__, st_dt_Signals___init__⟩)
    (wpg_Signals : PySem.W.plainGet K C_Signals Str.empty = true)
    (whd_Signals : PySem.W.hasDictIn K C_Signals = true)
    (wpo_Signals : PySem.W.plainOver K C_Signals = true)
    (wsa_Signals : PySem.W.findIn K (.ref C_Signals) "__setattr__" = some (some (.builtin "object.__setattr__")))
    (wmk_Signals : PySem.W.makesIn K C_Signals = true)
    (wkc_Signals : PySem.W.keepIn K (.ref C_Signals) = true)
    (wca_Signals : PySem.W.findIn K (.ref C_Signals) "__class__" = some (some (.builtin "object.__class__")))
    (wmo_Signals : PySem.W.mroIn K C_Signals (.type "object") = some true)
    (wnt_Signals : PySem.W.notFirst K C_Signals (.type "tuple") = true)
    (wst_Signals : PySem.W.subIn K (.ref C_Signals) (.type "tuple") = some false)
    (wna_Signals_plain : PySem.W.findIn K (.ref C_Signals) "plain" = some none)
    (wna_Signals_signals : PySem.W.findIn K (.ref C_Signals) "signals" = some none)
    (wna_Signals_spelled : PySem.W.findIn K (.ref C_Signals) "spelled" = some none)
    (z_abs : PySem.W.nsIn K mainGlobals "abs" = some none)
    (z_enumerate : PySem.W.nsIn K mainGlobals "enumerate" = some none)
    (z_int : PySem.W.nsIn K mainGlobals "int" = some none)
    (z_isinstance : PySem.W.nsIn K mainGlobals "isinstance" = some none)
    (z_iter : PySem.W.nsIn K mainGlobals "iter" = some none)
    (z_len : PySem.W.nsIn K mainGlobals "len" = some none)
    (z_list : PySem.W.nsIn K mainGlobals "list" = some none)
    (z_range : PySem.W.nsIn K mainGlobals "range" = some none)
    (z_repr : PySem.W.nsIn K mainGlobals "repr" = some none)
    (z_str : PySem.W.nsIn K mainGlobals "str" = some none)
    (z_sum : PySem.W.nsIn K mainGlobals "sum" = some none)
    (z_tuple : PySem.W.nsIn K mainGlobals "tuple" = some none)
    (v_SIGNS : PySem.W.nsIn K mainGlobals "SIGNS" = some (some (.str ".grw" t_SIGNS)))
    (v_LETTERS : PySem.W.nsIn K mainGlobals "LETTERS" = some (some (.str "abcdefghijklmnopqrstuvwxyz" t_LETTERS)))
    (v_MOST_LEVELS : PySem.W.nsIn K mainGlobals "MOST_LEVELS" = some (some (.int (70) t_MOST_LEVELS)))
    (v_MOST_ROUND : PySem.W.nsIn K mainGlobals "MOST_ROUND" = some (some (.int (24) t_MOST_ROUND)))
    (v_PLAIN : PySem.W.nsIn K mainGlobals "PLAIN" = some (some (.str "0" t_PLAIN)))
    (v_MOST_SIGNALS : PySem.W.nsIn K mainGlobals "MOST_SIGNALS" = some (some (.int (4) t_MOST_SIGNALS)))
    (v_MOST_WORD : PySem.W.nsIn K mainGlobals "MOST_WORD" = some (some (.int (12) t_MOST_WORD)))
    (v_MOST_PIECES : PySem.W.nsIn K mainGlobals "MOST_PIECES" = some (some (.int (100) t_MOST_PIECES)))
    (g_GlimError : PySem.W.nsIn K mainGlobals "GlimError" = some (some (.ref C_GlimError)))
    (g_BadRow : PySem.W.nsIn K mainGlobals "BadRow" = some (some (.ref C_BadRow)))
    (g_BadRound : PySem.W.nsIn K mainGlobals "BadRound" = some (some (.ref C_BadRound)))
    (g_BadSignal : PySem.W.nsIn K mainGlobals "BadSignal" = some (some (.ref C_BadSignal)))
    (g_BadMessage : PySem.W.nsIn K mainGlobals "BadMessage" = some (some (.ref C_BadMessage)))
    (g_Signals : PySem.W.nsIn K mainGlobals "Signals" = some (some (.ref C_Signals)))
    (xl_BadRow : K.lookup C_BadRow = some (excClassObj nm_BadRow q_BadRow C_BadRow N_BadRow bs_BadRow bm_BadRow true sn_BadRow sub_BadRow ab_BadRow col_BadRow dd_BadRow m0_BadRow m1_BadRow m2_BadRow m3_BadRow m5_BadRow "ValueError.__new__"))
    (xr_BadRow : PySem.HandSPX.refsVE bm_BadRow = true)
    (xsa_BadRow : PySem.W.findIn K (.ref C_BadRow) "__setattr__" = some (some (.builtin "object.__setattr__")))
    (xga_BadRow : PySem.W.findIn K (.ref C_BadRow) "__getattribute__" = some (some (.builtin "BaseException.__getattribute__")))
    (xgg_BadRow : PySem.W.findIn K (.ref C_BadRow) "__getattr__" = some none)
    (xnf_BadRow_number : PySem.W.findIn K (.ref C_BadRow) "number" = some none)
    (xi_BadRow : PySem.W.findIn K (.ref C_BadRow) "__init__" = some (some (.ref f39)))
    (xt_BadRow : PySem.W.typeIn K (.ref f39) = some (.type "function"))
    (xf_BadRow : K.lookup f39 = some ⟨oc39, od39, .func (PySem.W.fnOf "__init__" "BadRow.__init__" (defArgs s_BadRow) (defBody s_BadRow) (defScope s_BadRow) .none kV39 dc39 pm39 an39 cd39 ct39), sl39⟩)
    (xc_BadRow : PySem.W.codeIn K cd39 "BadRow.__init__" = true)
    (xkf_BadRow : PySem.W.keepIn K (.ref f39) = true)
    (xk_BadRow : PySem.W.keepIn K (.ref C_BadRow) = true)
    (xe_BadRow : PySem.W.subIn K (.ref C_BadRow) (.type "BaseException") = some true)
    (xty_BadRow : PySem.W.typeIn K (.ref C_BadRow) = some (.type "type"))
    (xhd_BadRow : PySem.W.hasDictIn K C_BadRow = true)
    (xis_BadRow : PySem.W.isClsIn K C_BadRow = true)
    (xca_BadRow : PySem.W.findIn K (.ref C_BadRow) "__class__" = some (some (.builtin "object.__class__")))
    (xm_BadRow : PySem.W.mroIn K C_BadRow (.type "object") = some true)
    (xl_BadRound : K.lookup C_BadRound = some (excClassObj nm_BadRound q_BadRound C_BadRound N_BadRound bs_BadRound bm_BadRound true sn_BadRound sub_BadRound ab_BadRound col_BadRound dd_BadRound m0_BadRound m1_BadRound m2_BadRound m3_BadRound m5_BadRound "ValueError.__new__"))
    (xr_BadRound : PySem.HandSPX.refsVE bm_BadRound = true)
    (xsa_BadRound : PySem.W.findIn K (.ref C_BadRound) "__setattr__" = some (some (.builtin "object.__setattr__")))
    (xga_BadRound : PySem.W.findIn K (.ref C_BadRound) "__getattribute__" = some (some (.builtin "BaseException.__getattribute__")))
    (xgg_BadRound : PySem.W.findIn K (.ref C_BadRound) "__getattr__" = some none)
    (xnf_BadRound_number : PySem.W.findIn K (.ref C_BadRound) "number" = some none)
    (xi_BadRound : PySem.W.findIn K (.ref C_BadRound) "__init__" = some (some (.ref f40)))
    (xt_BadRound : PySem.W.typeIn K (.ref f40) = some (.type "function"))
    (xf_BadRound : K.lookup f40 = some ⟨oc40, od40, .func (PySem.W.fnOf "__init__" "BadRound.__init__" (defArgs s_BadRound) (defBody s_BadRound) (defScope s_BadRound) .none kV40 dc40 pm40 an40 cd40 ct40), sl40⟩)
    (xc_BadRound : PySem.W.codeIn K cd40 "BadRound.__init__" = true)
    (xkf_BadRound : PySem.W.keepIn K (.ref f40) = true)
    (xk_BadRound : PySem.W.keepIn K (.ref C_BadRound) = true)
    (xe_BadRound : PySem.W.subIn K (.ref C_BadRound) (.type "BaseException") = some true)
    (xty_BadRound : PySem.W.typeIn K (.ref C_BadRound) = some (.type "type"))
    (xhd_BadRound : PySem.W.hasDictIn K C_BadRound = true)
    (xis_BadRound : PySem.W.isClsIn K C_BadRound = true)
    (xca_BadRound : PySem.W.findIn K (.ref C_BadRound) "__class__" = some (some (.builtin "object.__class__")))
    (xm_BadRound : PySem.W.mroIn K C_BadRound (.type "object") = some true)
    (xl_BadSignal : K.lookup C_BadSignal = some (excClassObj nm_BadSignal q_BadSignal C_BadSignal N_BadSignal bs_BadSignal bm_BadSignal true sn_BadSignal sub_BadSignal ab_BadSignal col_BadSignal dd_BadSignal m0_BadSignal m1_BadSignal m2_BadSignal m3_BadSignal m5_BadSignal "ValueError.__new__"))
    (xr_BadSignal : PySem.HandSPX.refsVE bm_BadSignal = true)
    (xsa_BadSignal : PySem.W.findIn K (.ref C_BadSignal) "__setattr__" = some (some (.builtin "object.__setattr__")))
    (xga_BadSignal : PySem.W.findIn K (.ref C_BadSignal) "__getattribute__" = some (some (.builtin "BaseException.__getattribute__")))
    (xgg_BadSignal : PySem.W.findIn K (.ref C_BadSignal) "__getattr__" = some none)
    (xnf_BadSignal_number : PySem.W.findIn K (.ref C_BadSignal) "number" = some none)
    (xi_BadSignal : PySem.W.findIn K (.ref C_BadSignal) "__init__" = some (some (.ref f41)))
    (xt_BadSignal : PySem.W.typeIn K (.ref f41) = some (.type "function"))
    (xf_BadSignal : K.lookup f41 = some ⟨oc41, od41, .func (PySem.W.fnOf "__init__" "BadSignal.__init__" (defArgs s_BadSignal) (defBody s_BadSignal) (defScope s_BadSignal) .none kV41 dc41 pm41 an41 cd41 ct41), sl41⟩)
    (xc_BadSignal : PySem.W.codeIn K cd41 "BadSignal.__init__" = true)
    (xkf_BadSignal : PySem.W.keepIn K (.ref f41) = true)
    (xk_BadSignal : PySem.W.keepIn K (.ref C_BadSignal) = true)
    (xe_BadSignal : PySem.W.subIn K (.ref C_BadSignal) (.type "BaseException") = some true)
    (xty_BadSignal : PySem.W.typeIn K (.ref C_BadSignal) = some (.type "type"))
    (xhd_BadSignal : PySem.W.hasDictIn K C_BadSignal = true)
    (xis_BadSignal : PySem.W.isClsIn K C_BadSignal = true)
    (xca_BadSignal : PySem.W.findIn K (.ref C_BadSignal) "__class__" = some (some (.builtin "object.__class__")))
    (xm_BadSignal : PySem.W.mroIn K C_BadSignal (.type "object") = some true)
    (xl_BadMessage : K.lookup C_BadMessage = some (excClassObj nm_BadMessage q_BadMessage C_BadMessage N_BadMessage bs_BadMessage bm_BadMessage true sn_BadMessage sub_BadMessage ab_BadMessage col_BadMessage dd_BadMessage m0_BadMessage m1_BadMessage m2_BadMessage m3_BadMessage m5_BadMessage "ValueError.__new__"))
    (xr_BadMessage : PySem.HandSPX.refsVE bm_BadMessage = true)
    (xsa_BadMessage : PySem.W.findIn K (.ref C_BadMessage) "__setattr__" = some (some (.builtin "object.__setattr__")))
    (xga_BadMessage : PySem.W.findIn K (.ref C_BadMessage) "__getattribute__" = some (some (.builtin "BaseException.__getattribute__")))
    (xgg_BadMessage : PySem.W.findIn K (.ref C_BadMessage) "__getattr__" = some none)
    (xnf_BadMessage_number : PySem.W.findIn K (.ref C_BadMessage) "number" = some none)
    (xi_BadMessage : PySem.W.findIn K (.ref C_BadMessage) "__init__" = some (some (.ref f42)))
    (xt_BadMessage : PySem.W.typeIn K (.ref f42) = some (.type "function"))
    (xf_BadMessage : K.lookup f42 = some ⟨oc42, od42, .func (PySem.W.fnOf "__init__" "BadMessage.__init__" (defArgs s_BadMessage) (defBody s_BadMessage) (defScope s_BadMessage) .none kV42 dc42 pm42 an42 cd42 ct42), sl42⟩)
    (xc_BadMessage : PySem.W.codeIn K cd42 "BadMessage.__init__" = true)
    (xkf_BadMessage : PySem.W.keepIn K (.ref f42) = true)
    (xk_BadMessage : PySem.W.keepIn K (.ref C_BadMessage) = true)
    (xe_BadMessage : PySem.W.subIn K (.ref C_BadMessage) (.type "BaseException") = some true)
    (xty_BadMessage : PySem.W.typeIn K (.ref C_BadMessage) = some (.type "type"))
    (xhd_BadMessage : PySem.W.hasDictIn K C_BadMessage = true)
    (xis_BadMessage : PySem.W.isClsIn K C_BadMessage = true)
    (xca_BadMessage : PySem.W.findIn K (.ref C_BadMessage) "__class__" = some (some (.builtin "object.__class__")))
    (xm_BadMessage : PySem.W.mroIn K C_BadMessage (.type "object") = some true)
    (xsp : PySem.W.specialIn K (.builtin "object.__class__") "__get__" = some (some (.builtin "getset_descriptor.__get__")))
    (xtk : PySem.W.takesIn K (.builtin "object.__class__") = some true)
    (qi_BadMessage : PySem.W.isClsIn K C_BadMessage = true)
    (qt_BadMessage : PySem.W.typeIn K (.ref C_BadMessage) = some (.type "type"))
    (qs_BadMessage : PySem.W.subIn K (.ref C_BadMessage) (.ref C_BadMessage) = some true)
    (qb_BadMessage : PySem.W.subIn K (.ref C_BadMessage) (.type "BaseException") = some true)
    (qi_BadRound : PySem.W.isClsIn K C_BadRound = true)
    (qt_BadRound : PySem.W.typeIn K (.ref C_BadRound) = some (.type "type"))
    (qs_BadRound : PySem.W.subIn K (.ref C_BadRound) (.ref C_BadRound) = some true)
    (qb_BadRound : PySem.W.subIn K (.ref C_BadRound) (.type "BaseException") = some true)
    (qi_BadRow : PySem.W.isClsIn K C_BadRow = true)
    (qt_BadRow : PySem.W.typeIn K (.ref C_BadRow) = some (.type "type"))
    (qs_BadRow : PySem.W.subIn K (.ref C_BadRow) (.ref C_BadRow) = some true)
    (qb_BadRow : PySem.W.subIn K (.ref C_BadRow) (.type "BaseException") = some true)
    (qi_BadSignal : PySem.W.isClsIn K C_BadSignal = true)
    (qt_BadSignal : PySem.W.typeIn K (.ref C_BadSignal) = some (.type "type"))
    (qs_BadSignal : PySem.W.subIn K (.ref C_BadSignal) (.ref C_BadSignal) = some true)
    (qb_BadSignal : PySem.W.subIn K (.ref C_BadSignal) (.type "BaseException") = some true)
    (qi_GlimError : PySem.W.isClsIn K C_GlimError = true)
    (qt_GlimError : PySem.W.typeIn K (.ref C_GlimError) = some (.type "type"))
    (qs_GlimError : PySem.W.subIn K (.ref C_GlimError) (.ref C_GlimError) = some true)
    (qb_GlimError : PySem.W.subIn K (.ref C_GlimError) (.type "BaseException") = some true)
    (qi_Signals : PySem.W.isClsIn K C_Signals = true)
    (qt_Signals : PySem.W.typeIn K (.ref C_Signals) = some (.type "type"))
    (qs_Signals : PySem.W.subIn K (.ref C_Signals) (.ref C_Signals) = some true)
    (y_Signals_Signals : PySem.W.subIn K (.ref C_Signals) (.ref C_Signals) = some true)
    (y_tuple_Signals : PySem.W.subIn K (.type "tuple") (.ref C_Signals) = some false)
    (y_str_Signals : PySem.W.subIn K (.type "str") (.ref C_Signals) = some false)
    (y_int_Signals : PySem.W.subIn K (.type "int") (.ref C_Signals) = some false)
    (y_list_Signals : PySem.W.subIn K (.type "list") (.ref C_Signals) = some false)
    (y_BadRound_BadRound : PySem.W.subIn K (.ref C_BadRound) (.ref C_BadRound) = some true)
    (y_BadRound_BadSignal : PySem.W.subIn K (.ref C_BadRound) (.ref C_BadSignal) = some false)
    (y_BadRound_BadRow : PySem.W.subIn K (.ref C_BadRound) (.ref C_BadRow) = some false)
    (y_BadRound_BadMessage : PySem.W.subIn K (.ref C_BadRound) (.ref C_BadMessage) = some false)
    (y_BadSignal_BadRound : PySem.W.subIn K (.ref C_BadSignal) (.ref C_BadRound) = some false)
    (y_BadSignal_BadSignal : PySem.W.subIn K (.ref C_BadSignal) (.ref C_BadSignal) = some true)
    (y_BadSignal_BadRow : PySem.W.subIn K (.ref C_BadSignal) (.ref C_BadRow) = some false)
    (y_BadSignal_BadMessage : PySem.W.subIn K (.ref C_BadSignal) (.ref C_BadMessage) = some false)
    (y_BadMessage_BadMessage : PySem.W.subIn K (.ref C_BadMessage) (.ref C_BadMessage) = some true)
    (y_BadMessage_BadSignal : PySem.W.subIn K (.ref C_BadMessage) (.ref C_BadSignal) = some false)
    (y_BadMessage_BadRow : PySem.W.subIn K (.ref C_BadMessage) (.ref C_BadRow) = some false)
    (x_BadRound_GlimError : PySem.W.subIn K (.ref C_BadRound) (.ref C_GlimError) = some true)
    (x_BadSignal_GlimError : PySem.W.subIn K (.ref C_BadSignal) (.ref C_GlimError) = some true)
    (x_BadMessage_GlimError : PySem.W.subIn K (.ref C_BadMessage) (.ref C_GlimError) = some true)
    : ∃ fd : FuncData, (∀ (s : Shared) (v : Value), BindsTo s fd ⟨[v], []⟩ [("_law_script", v)]) ∧ ∀ base : Heap, K.In base → base.Ns mainGlobals mg → GOk l.prog w K mg base CX0 12 fa fd ["_law_script"] (sp1 (p_law K)) := by
  have e := hfa.symm.trans (PySem.W.mg_of X G a38)
  cases e
  have F1 : FunD K "deep" "deep" (defArgs s_deep) (defBody s_deep) (defScope s_deep) [.int (0)] [] f1 _ := ⟨⟨_, _, _, _, _, _, _, _, _, _, rfl, l1, c1, (.inr ⟨by simp, D1, _, _, _, rfl, e1, rfl, (.cons ⟨_, rfl⟩ .nil)⟩), .inl rfl⟩, k1⟩
  have E1 := FunD.binds1 (ps := ["thing", "level"]) F1 1 0 (by simp) rfl fun _ _ _ _ _ _ _ us its h1 h2 => match us, its, h1, h2 with | [_], [_], _, _ => ⟨_, rfl, rfl⟩
  have B1 := FunD.binds1 (ps := ["thing", "level"]) F1 2 1 (by simp) rfl fun _ _ _ _ _ _ _ us its h1 h2 => match us, its, h1, h2 with | [_, _], [_], _, _ => ⟨_, rfl, rfl⟩
  have B1 : Binds K _ ["thing", "level"] [] := (by obtain ⟨ds, h1, h2⟩ := B1; cases h1; exact h2)
  have F2 := fun_mk (st := s_wrong_sign) l2 c2 k2
  have F3 := fun_mk (st := s_is_row) l3 c3 k3
  have F4 := fun_mk (st := s_is_letter) l4 c4 k4
  have F5 := fun_mk (st := s_check_round) l5 c5 k5
  have F6 := fun_mk (st := s_is_signal) l6 c6 k6
  have F7 := fun_mk (st := s_check_signals) l7 c7 k7
  have F8 := fun_mk (st := s_wrong_piece) l8 c8 k8
  have F9 := fun_mk (st := s_message_row) l9 c9 k9
  have F10 : FunD K "__init__" "Signals.__init__" (defArgs s_Signals___init__) (defBody s_Signals___init__) (defScope s_Signals___init__) [.ref C_dt_Signals___init__] [] f10 _ := ⟨⟨_, _, _, _, _, _, _, _, _, _, rfl, l10, c10, (.inr ⟨by simp, D10, _, _, _, rfl, e10, rfl, (.cons rfl .nil)⟩), .inl rfl⟩, k10⟩
  have E10 := FunD.binds1 (ps := ["self", "plain", "signals"]) F10 2 0 (by simp) rfl fun _ _ _ _ _ _ _ us its h1 h2 => match us, its, h1, h2 with | [_, _], [_], _, _ => ⟨_, rfl, rfl⟩
  have B10 := FunD.binds1 (ps := ["self", "plain", "signals"]) F10 3 1 (by simp) rfl fun _ _ _ _ _ _ _ us its h1 h2 => match us, its, h1, h2 with | [_, _, _], [_], _, _ => ⟨_, rfl, rfl⟩
  have B10 : Binds K _ ["self", "plain", "signals"] [] := (by obtain ⟨ds, h1, h2⟩ := B10; cases h1; exact h2)
  have F11 : FunD K "__len__" "Signals.__len__" (defArgs s_Signals___len__) (defBody s_Signals___len__) (defScope s_Signals___len__) [] [] f11 _ := ⟨⟨_, _, _, _, _, _, _, _, _, _, rfl, l11, c11, (.inl ⟨rfl, rfl⟩), .inl rfl⟩, k11⟩
  have B11 : Binds K _ ["self"] [] := FunD.bindsN (ps := ["self"]) F11 fun _ _ _ _ _ _ us hl => match us, hl with | [_], _ => rfl
  have E11 : ∃ ds, Vals [] ds ∧ Binds K _ ["self"] ds := ⟨[], .nil, B11⟩
  have F12 : FunD K "__iter__" "Signals.__iter__" (defArgs s_Signals___iter__) (defBody s_Signals___iter__) (defScope s_Signals___iter__) [] [] f12 _ := ⟨⟨_, _, _, _, _, _, _, _, _, _, rfl, l12, c12, (.inl ⟨rfl, rfl⟩), .inl rfl⟩, k12⟩
  have B12 : Binds K _ ["self"] [] := FunD.bindsN (ps := ["self"]) F12 fun _ _ _ _ _ _ us hl => match us, hl with | [_], _ => rfl
  have E12 : ∃ ds, Vals [] ds ∧ Binds K _ ["self"] ds := ⟨[], .nil, B12⟩
  have F13 : FunD K "__eq__" "Signals.__eq__" (defArgs s_Signals___eq__) (defBody s_Signals___eq__) (defScope s_Signals___eq__) [] [] f13 _ := ⟨⟨_, _, _, _, _, _, _, _, _, _, rfl, l13, c13, (.inl ⟨rfl, rfl⟩), .inl rfl⟩, k13⟩
  have B13 : Binds K _ ["self", "other"] [] := FunD.bindsN (ps := ["self", "other"]) F13 fun _ _ _ _ _ _ us hl => match us, hl with | [_, _], _ => rfl
  have E13 : ∃ ds, Vals [] ds ∧ Binds K _ ["self", "other"] ds := ⟨[], .nil, B13⟩
  have F14 : FunD K "__call__" "Signals.__call__" (defArgs s_Signals___call__) (defBody s_Signals___call__) (defScope s_Signals___call__) [] [] f14 _ := ⟨⟨_, _, _, _, _, _, _, _, _, _, rfl, l14, c14, (.inl ⟨rfl, rfl⟩), .inl rfl⟩, k14⟩
  have B14 : Binds K _ ["self", "message"] [] := FunD.bindsN (ps := ["self", "message"]) F14 fun _ _ _ _ _ _ us hl => match us, hl with | [_, _], _ => rfl
  have E14 : ∃ ds, Vals [] ds ∧ Binds K _ ["self", "message"] ds := ⟨[], .nil, B14⟩
  have F15 : FunD K "pieces" "Signals.pieces" (defArgs s_Signals_pieces) (defBody s_Signals_pieces) (defScope s_Signals_pieces) [] [] f15 _ := ⟨⟨_, _, _, _, _, _, _, _, _, _, rfl, l15, c15, (.inl ⟨rfl, rfl⟩), .inl rfl⟩, k15⟩
  have B15 : Binds K _ ["self"] [] := FunD.bindsN (ps := ["self"]) F15 fun _ _ _ _ _ _ us hl => match us, hl with | [_], _ => rfl
  have E15 : ∃ ds, Vals [] ds ∧ Binds K _ ["self"] ds := ⟨[], .nil, B15⟩
  have F16 := fun_mk (st := s_L_draw) l16 c16 k16
  have F17 := fun_mk (st := s_L_mix) l17 c17 k17
  have F18 := fun_mk (st := s_L_pick) l18 c18 k18
  have F19 := fun_mk (st := s_L_sign) l19 c19 k19
  have F20 := fun_mk (st := s_L_round) l20 c20 k20
  have F21 := fun_mk (st := s_L_bent) l21 c21 k21
  have F22 := fun_mk (st := s_L_letter) l22 c22 k22
  have F23 := fun_mk (st := s_L_talk) l23 c23 k23
  have F24 := fun_mk (st := s_L_formed) l24 c24 k24
  have F25 := fun_mk (st := s_L_odd_round) l25 c25 k25
  have F26 := fun_mk (st := s_L_odd_signal) l26 c26 k26
  have F27 := fun_mk (st := s_L_odd_signals) l27 c27 k27
  have F28 := fun_mk (st := s_L_wrong_sign) l28 c28 k28
  have F29 := fun_mk (st := s_L_wrong_signal) l29 c29 k29
  have F30 := fun_mk (st := s_L_made) l30 c30 k30
  have F31 := fun_mk (st := s_L_is_refused_well) l31 c31 k31
  have F32 := fun_mk (st := s_L_message) l32 c32 k32
  have F33 := fun_mk (st := s_L_row_due) l33 c33 k33
  have F34 := fun_mk (st := s_L_row_told) l34 c34 k34
  have F35 := fun_mk (st := s_L_is_told) l35 c35 k35
  have F36 := fun_mk (st := s_L_spoil) l36 c36 k36
  have F37 := fun_mk (st := s_L_asked) l37 c37 k37
  have F38 := fun_mk (st := s_law) l38 c38 k38
  have F39 := fun_mk (st := s_BadRow) xf_BadRow xc_BadRow xkf_BadRow
  have F40 := fun_mk (st := s_BadRound) xf_BadRound xc_BadRound xkf_BadRound
  have F41 := fun_mk (st := s_BadSignal) xf_BadSignal xc_BadSignal xkf_BadSignal
  have F42 := fun_mk (st := s_BadMessage) xf_BadMessage xc_BadMessage xkf_BadMessage
  have T : Txt K mg C_GlimError C_BadRow C_BadRound C_BadSignal C_BadMessage C_Signals C_dt_Signals___init__ := {
    d_deep := ⟨_, _, F1, PySem.W.mg_of X G a1, B1, E1⟩
    d_wrong_sign := ⟨_, _, F2, PySem.W.mg_of X G a2, (F2.binds (ps := ["row"]) fun _ _ _ _ _ _ us hl => match us, hl with | [_], _ => rfl)⟩
    d_is_row := ⟨_, _, F3, PySem.W.mg_of X G a3, (F3.binds (ps := ["thing", "most"]) fun _ _ _ _ _ _ us hl => match us, hl with | [_, _], _ => rfl)⟩
    d_is_letter := ⟨_, _, F4, PySem.W.mg_of X G a4, (F4.binds (ps := ["thing"]) fun _ _ _ _ _ _ us hl => match us, hl with | [_], _ => rfl)⟩
    d_check_round := ⟨_, _, F5, PySem.W.mg_of X G a5, (F5.binds (ps := ["thing"]) fun _ _ _ _ _ _ us hl => match us, hl with | [_], _ => rfl)⟩
    d_is_signal := ⟨_, _, F6, PySem.W.mg_of X G a6, (F6.binds (ps := ["thing"]) fun _ _ _ _ _ _ us hl => match us, hl with | [_], _ => rfl)⟩
    d_check_signals := ⟨_, _, F7, PySem.W.mg_of X G a7, (F7.binds (ps := ["signals"]) fun _ _ _ _ _ _ us hl => match us, hl with | [_], _ => rfl)⟩
    d_wrong_piece := ⟨_, _, F8, PySem.W.mg_of X G a8, (F8.binds (ps := ["signals", "message"]) fun _ _ _ _ _ _ us hl => match us, hl with | [_, _], _ => rfl)⟩
    d_message_row := ⟨_, _, F9, PySem.W.mg_of X G a9, (F9.binds (ps := ["signals", "message"]) fun _ _ _ _ _ _ us hl => match us, hl with | [_, _], _ => rfl)⟩
    m_Signals___init__ := ⟨f10, _, ⟨wmk_Signals, a10, i10, wkc_Signals⟩, PySem.W.mg_of X G g_Signals, F10, B10, E10⟩
    m_Signals___len__ := ⟨f11, _, ⟨a11, i11, k11⟩, F11, B11, E11⟩
    m_Signals___iter__ := ⟨f12, _, ⟨a12, i12, k12⟩, F12, B12, E12⟩
    m_Signals___eq__ := ⟨f13, _, ⟨a13, i13, k13⟩, F13, B13, E13⟩
    m_Signals___call__ := ⟨f14, _, ⟨a14, i14, k14⟩, F14, B14, E14⟩
    m_Signals_pieces := ⟨pp15, f15, _, ⟨a15, pg15, pt15, ⟨_, pr15⟩⟩, F15, B15⟩
    d_L_draw := ⟨_, _, F16, PySem.W.mg_of X G a16, (F16.binds (ps := ["_law_script"]) fun _ _ _ _ _ _ us hl => match us, hl with | [_], _ => rfl)⟩
    d_L_mix := ⟨_, _, F17, PySem.W.mg_of X G a17, (F17.binds (ps := ["_law_cell", "_law_turn"]) fun _ _ _ _ _ _ us hl => match us, hl with | [_, _], _ => rfl)⟩
    d_L_pick := ⟨_, _, F18, PySem.W.mg_of X G a18, (F18.binds (ps := ["_law_draw_here", "_law_many"]) fun _ _ _ _ _ _ us hl => match us, hl with | [_, _], _ => rfl)⟩
    d_L_sign := ⟨_, _, F19, PySem.W.mg_of X G a19, (F19.binds (ps := ["_law_draw_here"]) fun _ _ _ _ _ _ us hl => match us, hl with | [_], _ => rfl)⟩
    d_L_round := ⟨_, _, F20, PySem.W.mg_of X G a20, (F20.binds (ps := ["_law_draw_here", "_law_most"]) fun _ _ _ _ _ _ us hl => match us, hl with | [_, _], _ => rfl)⟩
    d_L_bent := ⟨_, _, F21, PySem.W.mg_of X G a21, (F21.binds (ps := ["_law_draw_here", "_law_row"]) fun _ _ _ _ _ _ us hl => match us, hl with | [_, _], _ => rfl)⟩
    d_L_letter := ⟨_, _, F22, PySem.W.mg_of X G a22, (F22.binds (ps := ["_law_draw_here", "_law_used"]) fun _ _ _ _ _ _ us hl => match us, hl with | [_, _], _ => rfl)⟩
    d_L_talk := ⟨_, _, F23, PySem.W.mg_of X G a23, (F23.binds (ps := ["_law_draw_here", "_law_many", "_law_most"]) fun _ _ _ _ _ _ us hl => match us, hl with | [_, _, _], _ => rfl)⟩
    d_L_formed := ⟨_, _, F24, PySem.W.mg_of X G a24, (F24.binds (ps := ["_law_draw_here", "_law_pairs"]) fun _ _ _ _ _ _ us hl => match us, hl with | [_, _], _ => rfl)⟩
    d_L_odd_round := ⟨_, _, F25, PySem.W.mg_of X G a25, (F25.binds (ps := ["_law_draw_here"]) fun _ _ _ _ _ _ us hl => match us, hl with | [_], _ => rfl)⟩
    d_L_odd_signal := ⟨_, _, F26, PySem.W.mg_of X G a26, (F26.binds (ps := ["_law_draw_here", "_law_pairs"]) fun _ _ _ _ _ _ us hl => match us, hl with | [_, _], _ => rfl)⟩
    d_L_odd_signals := ⟨_, _, F27, PySem.W.mg_of X G a27, (F27.binds (ps := ["_law_draw_here", "_law_pairs"]) fun _ _ _ _ _ _ us hl => match us, hl with | [_, _], _ => rfl)⟩
    d_L_wrong_sign := ⟨_, _, F28, PySem.W.mg_of X G a28, (F28.binds (ps := ["_law_row", "_law_most"]) fun _ _ _ _ _ _ us hl => match us, hl with | [_, _], _ => rfl)⟩
    d_L_wrong_signal := ⟨_, _, F29, PySem.W.mg_of X G a29, (F29.binds (ps := ["_law_told"]) fun _ _ _ _ _ _ us hl => match us, hl with | [_], _ => rfl)⟩
    d_L_made := ⟨_, _, F30, PySem.W.mg_of X G a30, (F30.binds (ps := ["_law_plain", "_law_told"]) fun _ _ _ _ _ _ us hl => match us, hl with | [_, _], _ => rfl)⟩
    d_L_is_refused_well := ⟨_, _, F31, PySem.W.mg_of X G a31, (F31.binds (ps := ["_law_draw_here", "_law_plain", "_law_pairs"]) fun _ _ _ _ _ _ us hl => match us, hl with | [_, _, _], _ => rfl)⟩
    d_L_message := ⟨_, _, F32, PySem.W.mg_of X G a32, (F32.binds (ps := ["_law_draw_here", "_law_names"]) fun _ _ _ _ _ _ us hl => match us, hl with | [_, _], _ => rfl)⟩
    d_L_row_due := ⟨_, _, F33, PySem.W.mg_of X G a33, (F33.binds (ps := ["_law_plain", "_law_pairs", "_law_message_here"]) fun _ _ _ _ _ _ us hl => match us, hl with | [_, _, _], _ => rfl)⟩
    d_L_row_told := ⟨_, _, F34, PySem.W.mg_of X G a34, (F34.binds (ps := ["_law_signals", "_law_message_here"]) fun _ _ _ _ _ _ us hl => match us, hl with | [_, _], _ => rfl)⟩
    d_L_is_told := ⟨_, _, F35, PySem.W.mg_of X G a35, (F35.binds (ps := ["_law_signals", "_law_plain", "_law_pairs"]) fun _ _ _ _ _ _ us hl => match us, hl with | [_, _, _], _ => rfl)⟩
    d_L_spoil := ⟨_, _, F36, PySem.W.mg_of X G a36, (F36.binds (ps := ["_law_told"]) fun _ _ _ _ _ _ us hl => match us, hl with | [_], _ => rfl)⟩
    d_L_asked := ⟨_, _, F37, PySem.W.mg_of X G a37, (F37.binds (ps := ["_law_draw_here"]) fun _ _ _ _ _ _ us hl => match us, hl with | [_], _ => rfl)⟩
    d_law := ⟨_, _, F38, PySem.W.mg_of X G a38, (F38.binds (ps := ["_law_script"]) fun _ _ _ _ _ _ us hl => match us, hl with | [_], _ => rfl)⟩
    b_abs := PySem.W.mg_none_of X G z_abs
    b_enumerate := PySem.W.mg_none_of X G z_enumerate
    b_int := PySem.W.mg_none_of X G z_int
    b_isinstance := PySem.W.mg_none_of X G z_isinstance
    b_iter := PySem.W.mg_none_of X G z_iter
    b_len := PySem.W.mg_none_of X G z_len
    b_list := PySem.W.mg_none_of X G z_list
    b_range := PySem.W.mg_none_of X G z_range
    b_repr := PySem.W.mg_none_of X G z_repr
    b_str := PySem.W.mg_none_of X G z_str
    b_sum := PySem.W.mg_none_of X G z_sum
    b_tuple := PySem.W.mg_none_of X G z_tuple
    g_SIGNS := ⟨t_SIGNS, (PySem.W.mg_of X G v_SIGNS).trans (congrArg some (congrArg (fun z => Value.str z t_SIGNS) (by decide +kernel : (".grw" : Str) = ⟨([46, 103, 114, 119] : List Nat).toArray⟩)))⟩
    g_LETTERS := ⟨t_LETTERS, (PySem.W.mg_of X G v_LETTERS).trans (congrArg some (congrArg (fun z => Value.str z t_LETTERS) (by decide +kernel : ("abcdefghijklmnopqrstuvwxyz" : Str) = ⟨([97, 98, 99, 100, 101, 102, 103, 104, 105, 106, 107, 108, 109, 110, 111, 112, 113, 114, 115, 116, 117, 118, 119, 120, 121, 122] : List Nat).toArray⟩)))⟩
    g_MOST_LEVELS := ⟨t_MOST_LEVELS, PySem.W.mg_of X G v_MOST_LEVELS⟩
    g_MOST_ROUND := ⟨t_MOST_ROUND, PySem.W.mg_of X G v_MOST_ROUND⟩
    g_PLAIN := ⟨t_PLAIN, (PySem.W.mg_of X G v_PLAIN).trans (congrArg some (congrArg (fun z => Value.str z t_PLAIN) (by decide +kernel : ("0" : Str) = ⟨([48] : List Nat).toArray⟩)))⟩
    g_MOST_SIGNALS := ⟨t_MOST_SIGNALS, PySem.W.mg_of X G v_MOST_SIGNALS⟩
    g_MOST_WORD := ⟨t_MOST_WORD, PySem.W.mg_of X G v_MOST_WORD⟩
    g_MOST_PIECES := ⟨t_MOST_PIECES, PySem.W.mg_of X G v_MOST_PIECES⟩
    c_GlimError := PySem.W.mg_of X G g_GlimError
    c_BadRow := PySem.W.mg_of X G g_BadRow
    c_BadRound := PySem.W.mg_of X G g_BadRound
    c_BadSignal := PySem.W.mg_of X G g_BadSignal
    c_BadMessage := PySem.W.mg_of X G g_BadMessage
    c_Signals := PySem.W.mg_of X G g_Signals
    q_dt_Signals___init__ := ⟨_, lt_dt_Signals___init__, rfl, fun H => .inr ⟨_, _, _, lt_dt_Signals___init__, rfl, rfl, by show 0 ≤ sizeLine; exact Nat.zero_le _, .nil⟩⟩
    cl_Signals := ⟨wpg_Signals, whd_Signals, wpo_Signals, wsa_Signals⟩
    ic_Signals := ⟨⟨wpg_Signals, whd_Signals, wpo_Signals, wsa_Signals⟩, wca_Signals, xsp, xtk, wmo_Signals⟩
    nt_Signals := wnt_Signals
    st_Signals := wst_Signals
    na_Signals_plain := wna_Signals_plain
    na_Signals_signals := wna_Signals_signals
    na_Signals_spelled := wna_Signals_spelled
    o_BadRow := ⟨⟨nm_BadRow, q_BadRow, N_BadRow, bs_BadRow, bm_BadRow, sn_BadRow, sub_BadRow, ab_BadRow, col_BadRow, dd_BadRow, m0_BadRow, m1_BadRow, m2_BadRow, m3_BadRow, m5_BadRow, xl_BadRow, xr_BadRow⟩, xsa_BadRow, xe_BadRow, xty_BadRow, xk_BadRow⟩
    nf_BadRow_number := xnf_BadRow_number
    i_BadRow := ⟨f39, _, xi_BadRow, xt_BadRow, F39, (F39.binds (ps := ["self", "number"]) fun _ _ _ _ _ _ us hl => match us, hl with | [_, _], _ => rfl)⟩
    e_BadRow := ⟨xis_BadRow, xga_BadRow, xgg_BadRow, xe_BadRow, xhd_BadRow, xca_BadRow, xsp, xtk, xm_BadRow⟩
    o_BadRound := ⟨⟨nm_BadRound, q_BadRound, N_BadRound, bs_BadRound, bm_BadRound, sn_BadRound, sub_BadRound, ab_BadRound, col_BadRound, dd_BadRound, m0_BadRound, m1_BadRound, m2_BadRound, m3_BadRound, m5_BadRound, xl_BadRound, xr_BadRound⟩, xsa_BadRound, xe_BadRound, xty_BadRound, xk_BadRound⟩
    nf_BadRound_number := xnf_BadRound_number
    i_BadRound := ⟨f40, _, xi_BadRound, xt_BadRound, F40, (F40.binds (ps := ["self", "number"]) fun _ _ _ _ _ _ us hl => match us, hl with | [_, _], _ => rfl)⟩
    e_BadRound := ⟨xis_BadRound, xga_BadRound, xgg_BadRound, xe_BadRound, xhd_BadRound, xca_BadRound, xsp, xtk, xm_BadRound⟩
    o_BadSignal := ⟨⟨nm_BadSignal, q_BadSignal, N_BadSignal, bs_BadSignal, bm_BadSignal, sn_BadSignal, sub_BadSignal, ab_BadSignal, col_BadSignal, dd_BadSignal, m0_BadSignal, m1_BadSignal, m2_BadSignal, m3_BadSignal, m5_BadSignal, xl_BadSignal, xr_BadSignal⟩, xsa_BadSignal, xe_BadSignal, xty_BadSignal, xk_BadSignal⟩
    nf_BadSignal_number := xnf_BadSignal_number
    i_BadSignal := ⟨f41, _, xi_BadSignal, xt_BadSignal, F41, (F41.binds (ps := ["self", "number"]) fun _ _ _ _ _ _ us hl => match us, hl with | [_, _], _ => rfl)⟩
    e_BadSignal := ⟨xis_BadSignal, xga_BadSignal, xgg_BadSignal, xe_BadSignal, xhd_BadSignal, xca_BadSignal, xsp, xtk, xm_BadSignal⟩
    o_BadMessage := ⟨⟨nm_BadMessage, q_BadMessage, N_BadMessage, bs_BadMessage, bm_BadMessage, sn_BadMessage, sub_BadMessage, ab_BadMessage, col_BadMessage, dd_BadMessage, m0_BadMessage, m1_BadMessage, m2_BadMessage, m3_BadMessage, m5_BadMessage, xl_BadMessage, xr_BadMessage⟩, xsa_BadMessage, xe_BadMessage, xty_BadMessage, xk_BadMessage⟩
    nf_BadMessage_number := xnf_BadMessage_number
    i_BadMessage := ⟨f42, _, xi_BadMessage, xt_BadMessage, F42, (F42.binds (ps := ["self", "number"]) fun _ _ _ _ _ _ us hl => match us, hl with | [_, _], _ => rfl)⟩
    e_BadMessage := ⟨xis_BadMessage, xga_BadMessage, xgg_BadMessage, xe_BadMessage, xhd_BadMessage, xca_BadMessage, xsp, xtk, xm_BadMessage⟩
    k_Signals_Signals := Fg.kit_ref qi_Signals qt_Signals qs_Signals y_Signals_Signals
    k_tuple_Signals := Fg.kit_bltn qi_Signals qt_Signals y_tuple_Signals
    k_str_Signals := Fg.kit_bltn qi_Signals qt_Signals y_str_Signals
    k_int_Signals := Fg.kit_bltn qi_Signals qt_Signals y_int_Signals
    k_list_Signals := Fg.kit_bltn qi_Signals qt_Signals y_list_Signals
    k_BadRound_BadRound := Fg.kit_ref qi_BadRound qt_BadRound qs_BadRound y_BadRound_BadRound
    k_BadRound_BadSignal := Fg.kit_ref qi_BadSignal qt_BadSignal qs_BadSignal y_BadRound_BadSignal
    k_BadRound_BadRow := Fg.kit_ref qi_BadRow qt_BadRow qs_BadRow y_BadRound_BadRow
    k_BadRound_BadMessage := Fg.kit_ref qi_BadMessage qt_BadMessage qs_BadMessage y_BadRound_BadMessage
    k_BadSignal_BadRound := Fg.kit_ref qi_BadRound qt_BadRound qs_BadRound y_BadSignal_BadRound
    k_BadSignal_BadSignal := Fg.kit_ref qi_BadSignal qt_BadSignal qs_BadSignal y_BadSignal_BadSignal
    k_BadSignal_BadRow := Fg.kit_ref qi_BadRow qt_BadRow qs_BadRow y_BadSignal_BadRow
    k_BadSignal_BadMessage := Fg.kit_ref qi_BadMessage qt_BadMessage qs_BadMessage y_BadSignal_BadMessage
    k_BadMessage_BadMessage := Fg.kit_ref qi_BadMessage qt_BadMessage qs_BadMessage y_BadMessage_BadMessage
    k_BadMessage_BadSignal := Fg.kit_ref qi_BadSignal qt_BadSignal qs_BadSignal y_BadMessage_BadSignal
    k_BadMessage_BadRow := Fg.kit_ref qi_BadRow qt_BadRow qs_BadRow y_BadMessage_BadRow
    m_BadRound_GlimError := Fg.exm_ref qi_GlimError qt_GlimError qb_GlimError x_BadRound_GlimError
    m_BadSignal_GlimError := Fg.exm_ref qi_GlimError qt_GlimError qb_GlimError x_BadSignal_GlimError
    m_BadMessage_GlimError := Fg.exm_ref qi_GlimError qt_GlimError qb_GlimError x_BadMessage_GlimError }
  refine ⟨PySem.W.fnOf "law" "law" (defArgs s_law) (defBody s_law) (defScope s_law) .none kV38 dc38 pm38 an38 cd38 ct38, fun s v => .of_eq rfl, fun base _ _ => ?_⟩
  exact ok_law_at F38 T
end K75
open PySem PySem.W PyProof.Rows
set_option maxRecDepth 100000 in
set_option maxHeartbeats 0 in
theorem PySem.Challenge.cw_falseglim_k75_signals_and_rows_holds : PySem.Challenge.rw_falseglim_k75_signals_and_rows.Holds := by
  w_on; o_law; k_head; (case hw => w_witness2)
  k_fill
  refine Fg.walk_g (l := PySem.Challenge.rw_falseglim_k75_signals_and_rows) (n := 63) (k := 12) (x := "_law_script") (CX := fun _ => L2.CX0) (sp := fun w => Fg.sp1 (K75.p_law _)) rfl (by decide) rfl ⟨rfl, by decide, by decide⟩ (fun w h Y => PySem.W.kIn_of Y) ?F (fun _ _ a ns hl _ hS => ⟨.ref a, rfl, a, ns, rfl, hS, hl, fun _ => rfl⟩) (fun _ _ _ _ _ h => h)
  case F =>
    intro w mg fa h KX G hmg
    refine' K75.all_mk KX G hmg ?a1 ?l1 ?c1 ?k1 ?e1 ?a2 ?l2 ?c2 ?k2 ?a3 ?l3 ?c3 ?k3 ?a4 ?l4 ?c4 ?k4 ?a5 ?l5 ?c5 ?k5 ?a6 ?l6 ?c6 ?k6 ?a7 ?l7 ?c7 ?k7 ?a8 ?l8 ?c8 ?k8 ?a9 ?l9 ?c9 ?k9 ?a10 ?i10 ?l10 ?c10 ?k10 ?e10 ?a11 ?i11 ?l11 ?c11 ?k11 ?a12 ?i12 ?l12 ?c12 ?k12 ?a13 ?i13 ?l13 ?c13 ?k13 ?a14 ?i14 ?l14 ?c14 ?k14 ?a15 ?pg15 ?pt15 ?pr15 ?l15 ?c15 ?k15 ?a16 ?l16 ?c16 ?k16 ?a17 ?l17 ?c17 ?k17 ?a18 ?l18 ?c18 ?k18 ?a19 ?l19 ?c19 ?k19 ?a20 ?l20 ?c20 ?k20 ?a21 ?l21 ?c21 ?k21 ?a22 ?l22 ?c22 ?k22 ?a23 ?l23 ?c23 ?k23 ?a24 ?l24 ?c24 ?k24 ?a25 ?l25 ?c25 ?k25 ?a26 ?l26 ?c26 ?k26 ?a27 ?l27 ?c27 ?k27 ?a28 ?l28 ?c28 ?k28 ?a29 ?l29 ?c29 ?k29 ?a30 ?l30 ?c30 ?k30 ?a31 ?l31 ?c31 ?k31 ?a32 ?l32 ?c32 ?k32 ?a33 ?l33 ?c33 ?k33 ?a34 ?l34 ?c34 ?k34 ?a35 ?l35 ?c35 ?k35 ?a36 ?l36 ?c36 ?k36 ?a37 ?l37 ?c37 ?k37 ?a38 ?l38 ?c38 ?k38 ?lt_dt_Signals___init__ ?wpg_Signals ?whd_Signals ?wpo_Signals ?wsa_Signals ?wmk_Signals ?wkc_Signals ?wca_Signals ?wmo_Signals ?wnt_Signals ?wst_Signals ?wna_Signals_plain ?wna_Signals_signals ?wna_Signals_spelled ?z_abs ?z_enumerate ?z_int ?z_isinstance ?z_iter ?z_len ?z_list ?z_range ?z_repr ?z_str ?z_sum ?z_tuple ?v_SIGNS ?v_LETTERS ?v_MOST_LEVELS ?v_MOST_ROUND ?v_PLAIN ?v_MOST_SIGNALS ?v_MOST_WORD ?v_MOST_PIECES ?g_GlimError ?g_BadRow ?g_BadRound ?g_BadSignal ?g_BadMessage ?g_Signals ?xl_BadRow ?xr_BadRow ?xsa_BadRow ?xga_BadRow ?xgg_BadRow ?xnf_BadRow_number ?xi_BadRow ?xt_BadRow ?xf_BadRow ?xc_BadRow ?xkf_BadRow ?xk_BadRow ?xe_BadRow ?xty_BadRow ?xhd_BadRow ?xis_BadRow ?xca_BadRow ?xm_BadRow ?xl_BadRound ?xr_BadRound ?xsa_BadRound ?xga_BadRound ?xgg_BadRound ?xnf_BadRound_number ?xi_BadRound ?xt_BadRound ?xf_BadRound ?xc_BadRound ?xkf_BadRound ?xk_BadRound ?xe_BadRound ?xty_BadRound ?xhd_BadRound ?xis_BadRound ?xca_BadRound ?xm_BadRound ?xl_BadSignal ?xr_BadSignal ?xsa_BadSignal ?xga_BadSignal ?xgg_BadSignal ?xnf_BadSignal_number ?xi_BadSignal ?xt_BadSignal ?xf_BadSignal ?xc_BadSignal ?xkf_BadSignal ?xk_BadSignal ?xe_BadSignal ?xty_BadSignal ?xhd_BadSignal ?xis_BadSignal ?xca_BadSignal ?xm_BadSignal ?xl_BadMessage ?xr_BadMessage ?xsa_BadMessage ?xga_BadMessage ?xgg_BadMessage ?xnf_BadMessage_number ?xi_BadMessage ?xt_BadMessage ?xf_BadMessage ?xc_BadMessage ?xkf_BadMessage ?xk_BadMessage ?xe_BadMessage ?xty_BadMessage ?xhd_BadMessage ?xis_BadMessage ?xca_BadMessage ?xm_BadMessage ?xsp ?xtk ?qi_BadMessage ?qt_BadMessage ?qs_BadMessage ?qb_BadMessage ?qi_BadRound ?qt_BadRound ?qs_BadRound ?qb_BadRound ?qi_BadRow ?qt_BadRow ?qs_BadRow ?qb_BadRow ?qi_BadSignal ?qt_BadSignal ?qs_BadSignal ?qb_BadSignal ?qi_GlimError ?qt_GlimError ?qs_GlimError ?qb_GlimError ?qi_Signals ?qt_Signals ?qs_Signals ?y_Signals_Signals ?y_tuple_Signals ?y_str_Signals ?y_int_Signals ?y_list_Signals ?y_BadRound_BadRound ?y_BadRound_BadSignal ?y_BadRound_BadRow ?y_BadRound_BadMessage ?y_BadSignal_BadRound ?y_BadSignal_BadSignal ?y_BadSignal_BadRow ?y_BadSignal_BadMessage ?y_BadMessage_BadMessage ?y_BadMessage_BadSignal ?y_BadMessage_BadRow ?x_BadRound_GlimError ?x_BadSignal_GlimError ?x_BadMessage_GlimError
    (case g_GlimError => k_is)
    (case g_BadRow => k_is)
    (case g_BadRound => k_is)
    (case g_BadSignal => k_is)
    (case g_BadMessage => k_is)
    (case g_Signals => k_is)
    (case a1 => k_is)
    (case l1 => k_is)
    (case c1 => k_is)
    (case k1 => k_is)
    (case e1 => k_is)
    (case a2 => k_is)
    (case l2 => k_is)
    (case c2 => k_is)
    (case k2 => k_is)
    (case a3 => k_is)
    (case l3 => k_is)
    (case c3 => k_is)
    (case k3 => k_is)
    (case a4 => k_is)
    (case l4 => k_is)
    (case c4 => k_is)
    (case k4 => k_is)
    (case a5 => k_is)
    (case l5 => k_is)
    (case c5 => k_is)
    (case k5 => k_is)
    (case a6 => k_is)
    (case l6 => k_is)
    (case c6 => k_is)
    (case k6 => k_is)
    (case a7 => k_is)
    (case l7 => k_is)
    (case c7 => k_is)
    (case k7 => k_is)
    (case a8 => k_is)
    (case l8 => k_is)
    (case c8 => k_is)
    (case k8 => k_is)
    (case a9 => k_is)
    (case l9 => k_is)
    (case c9 => k_is)
    (case k9 => k_is)
    (case a10 => k_is)
    (case i10 => k_is)
    (case l10 => k_is)
    (case c10 => k_is)
    (case k10 => k_is)
    (case e10 => k_is)
    (case a11 => k_is)
    (case i11 => k_is)
    (case l11 => k_is)
    (case c11 => k_is)
    (case k11 => k_is)
    (case a12 => k_is)
    (case i12 => k_is)
    (case l12 => k_is)
    (case c12 => k_is)
    (case k12 => k_is)
    (case a13 => k_is)
    (case i13 => k_is)
    (case l13 => k_is)
    (case c13 => k_is)
    (case k13 => k_is)
    (case a14 => k_is)
    (case i14 => k_is)
    (case l14 => k_is)
    (case c14 => k_is)
    (case k14 => k_is)
    (case a15 => k_is)
    (case pg15 => k_is)
    (case pt15 => k_is)
    (case pr15 => k_is)
    (case l15 => k_is)
    (case c15 => k_is)
    (case k15 => k_is)
    (case a16 => k_is)
    (case l16 => k_is)
    (case c16 => k_is)
    (case k16 => k_is)
    (case a17 => k_is)
    (case l17 => k_is)
    (case c17 => k_is)
    (case k17 => k_is)
    (case a18 => k_is)
    (case l18 => k_is)
    (case c18 => k_is)
    (case k18 => k_is)
    (case a19 => k_is)
    (case l19 => k_is)
    (case c19 => k_is)
    (case k19 => k_is)
    (case a20 => k_is)
    (case l20 => k_is)
    (case c20 => k_is)
    (case k20 => k_is)
    (case a21 => k_is)
    (case l21 => k_is)
    (case c21 => k_is)
    (case k21 => k_is)
    (case a22 => k_is)
    (case l22 => k_is)
    (case c22 => k_is)
    (case k22 => k_is)
    (case a23 => k_is)
    (case l23 => k_is)
    (case c23 => k_is)
    (case k23 => k_is)
    (case a24 => k_is)
    (case l24 => k_is)
    (case c24 => k_is)
    (case k24 => k_is)
    (case a25 => k_is)
    (case l25 => k_is)
    (case c25 => k_is)
    (case k25 => k_is)
    (case a26 => k_is)
    (case l26 => k_is)
    (case c26 => k_is)
    (case k26 => k_is)
    (case a27 => k_is)
    (case l27 => k_is)
    (case c27 => k_is)
    (case k27 => k_is)
    (case a28 => k_is)
    (case l28 => k_is)
    (case c28 => k_is)
    (case k28 => k_is)
    (case a29 => k_is)
    (case l29 => k_is)
    (case c29 => k_is)
    (case k29 => k_is)
    (case a30 => k_is)
    (case l30 => k_is)
    (case c30 => k_is)
    (case k30 => k_is)
    (case a31 => k_is)
    (case l31 => k_is)
    (case c31 => k_is)
    (case k31 => k_is)
    (case a32 => k_is)
    (case l32 => k_is)
    (case c32 => k_is)
    (case k32 => k_is)
    (case a33 => k_is)
    (case l33 => k_is)
    (case c33 => k_is)
    (case k33 => k_is)
    (case a34 => k_is)
    (case l34 => k_is)
    (case c34 => k_is)
    (case k34 => k_is)
    (case a35 => k_is)
    (case l35 => k_is)
    (case c35 => k_is)
    (case k35 => k_is)
    (case a36 => k_is)
    (case l36 => k_is)
    (case c36 => k_is)
    (case k36 => k_is)
    (case a37 => k_is)
    (case l37 => k_is)
    (case c37 => k_is)
    (case k37 => k_is)
    (case a38 => k_is)
    (case l38 => k_is)
    (case c38 => k_is)
    (case k38 => k_is)
    (case lt_dt_Signals___init__ => k_is)
    (case wpg_Signals => k_is)
    (case whd_Signals => k_is)
    (case wpo_Signals => k_is)
    (case wsa_Signals => k_is)
    (case wmk_Signals => k_is)
    (case wkc_Signals => k_is)
    (case wca_Signals => k_is)
    (case wmo_Signals => k_is)
    (case wnt_Signals => k_is)
    (case wst_Signals => k_is)
    (case wna_Signals_plain => k_is)
    (case wna_Signals_signals => k_is)
    (case wna_Signals_spelled => k_is)
    (case z_abs => k_is)
    (case z_enumerate => k_is)
    (case z_int => k_is)
    (case z_isinstance => k_is)
    (case z_iter => k_is)
    (case z_len => k_is)
    (case z_list => k_is)
    (case z_range => k_is)
    (case z_repr => k_is)
    (case z_str => k_is)
    (case z_sum => k_is)
    (case z_tuple => k_is)
    (case v_SIGNS => k_is)
    (case v_LETTERS => k_is)
    (case v_MOST_LEVELS => k_is)
    (case v_MOST_ROUND => k_is)
    (case v_PLAIN => k_is)
    (case v_MOST_SIGNALS => k_is)
    (case v_MOST_WORD => k_is)
    (case v_MOST_PIECES => k_is)
    (case xl_BadRow => k_is)
    (case xr_BadRow => first | rfl | k_is | decide +kernel)
    (case xsa_BadRow => k_is)
    (case xga_BadRow => k_is)
    (case xgg_BadRow => k_is)
    (case xnf_BadRow_number => k_is)
    (case xi_BadRow => k_is)
    (case xt_BadRow => k_is)
    (case xf_BadRow => k_is)
    (case xc_BadRow => k_is)
    (case xkf_BadRow => k_is)
    (case xk_BadRow => k_is)
    (case xe_BadRow => k_is)
    (case xty_BadRow => k_is)
    (case xhd_BadRow => k_is)
    (case xis_BadRow => k_is)
    (case xca_BadRow => k_is)
    (case xm_BadRow => k_is)
    (case xl_BadRound => k_is)
    (case xr_BadRound => first | rfl | k_is | decide +kernel)
    (case xsa_BadRound => k_is)
    (case xga_BadRound => k_is)
    (case xgg_BadRound => k_is)
    (case xnf_BadRound_number => k_is)
    (case xi_BadRound => k_is)
    (case xt_BadRound => k_is)
    (case xf_BadRound => k_is)
    (case xc_BadRound => k_is)
    (case xkf_BadRound => k_is)
    (case xk_BadRound => k_is)
    (case xe_BadRound => k_is)
    (case xty_BadRound => k_is)
    (case xhd_BadRound => k_is)
    (case xis_BadRound => k_is)
    (case xca_BadRound => k_is)
    (case xm_BadRound => k_is)
    (case xl_BadSignal => k_is)
    (case xr_BadSignal => first | rfl | k_is | decide +kernel)
    (case xsa_BadSignal => k_is)
    (case xga_BadSignal => k_is)
    (case xgg_BadSignal => k_is)
    (case xnf_BadSignal_number => k_is)
    (case xi_BadSignal => k_is)
    (case xt_BadSignal => k_is)
    (case xf_BadSignal => k_is)
    (case xc_BadSignal => k_is)
    (case xkf_BadSignal => k_is)
    (case xk_BadSignal => k_is)
    (case xe_BadSignal => k_is)
    (case xty_BadSignal => k_is)
    (case xhd_BadSignal => k_is)
    (case xis_BadSignal => k_is)
    (case xca_BadSignal => k_is)
    (case xm_BadSignal => k_is)
    (case xl_BadMessage => k_is)
    (case xr_BadMessage => first | rfl | k_is | decide +kernel)
    (case xsa_BadMessage => k_is)
    (case xga_BadMessage => k_is)
    (case xgg_BadMessage => k_is)
    (case xnf_BadMessage_number => k_is)
    (case xi_BadMessage => k_is)
    (case xt_BadMessage => k_is)
    (case xf_BadMessage => k_is)
    (case xc_BadMessage => k_is)
    (case xkf_BadMessage => k_is)
    (case xk_BadMessage => k_is)
    (case xe_BadMessage => k_is)
    (case xty_BadMessage => k_is)
    (case xhd_BadMessage => k_is)
    (case xis_BadMessage => k_is)
    (case xca_BadMessage => k_is)
    (case xm_BadMessage => k_is)
    (case xsp => k_is)
    (case xtk => k_is)
    (case qi_BadMessage => k_is)
    (case qt_BadMessage => k_is)
    (case qs_BadMessage => k_is)
    (case qb_BadMessage => k_is)
    (case qi_BadRound => k_is)
    (case qt_BadRound => k_is)
    (case qs_BadRound => k_is)
    (case qb_BadRound => k_is)
    (case qi_BadRow => k_is)
    (case qt_BadRow => k_is)
    (case qs_BadRow => k_is)
    (case qb_BadRow => k_is)
    (case qi_BadSignal => k_is)
    (case qt_BadSignal => k_is)
    (case qs_BadSignal => k_is)
    (case qb_BadSignal => k_is)
    (case qi_GlimError => k_is)
    (case qt_GlimError => k_is)
    (case qs_GlimError => k_is)
    (case qb_GlimError => k_is)
    (case qi_Signals => k_is)
    (case qt_Signals => k_is)
    (case qs_Signals => k_is)
    (case y_Signals_Signals => k_is)
    (case y_tuple_Signals => k_is)
    (case y_str_Signals => k_is)
    (case y_int_Signals => k_is)
    (case y_list_Signals => k_is)
    (case y_BadRound_BadRound => k_is)
    (case y_BadRound_BadSignal => k_is)
    (case y_BadRound_BadRow => k_is)
    (case y_BadRound_BadMessage => k_is)
    (case y_BadSignal_BadRound => k_is)
    (case y_BadSignal_BadSignal => k_is)
    (case y_BadSignal_BadRow => k_is)
    (case y_BadSignal_BadMessage => k_is)
    (case y_BadMessage_BadMessage => k_is)
    (case y_BadMessage_BadSignal => k_is)
    (case y_BadMessage_BadRow => k_is)
    (case x_BadRound_GlimError => k_is)
    (case x_BadSignal_GlimError => k_is)
    (case x_BadMessage_GlimError => k_is)
