import PyProof.Rows.All
import Wide.All
import OpenK.AllK
import Wide.FinOn
import HandS.ForMost
import HandS.Exc
import HandS.ExcOwn
import HandS.WordsExc
import HandS.TryOnly
import HandS.ExcInit
import HandS.ExcField
import HandS.ExcIs
import HandS.IsInst
import HandS.TryMany
import HandS.Wide
import HandS.Steps
import HandS.TupAny
import HandS.Walk
import HandS.Evl
import KE.GoesEnum
import KE.KExcIs
import HandS.Conv
import HandS.Defaults
import HandS.Deep
import PyProof.EnumMake
import KE.GoesMore
import HandS.Replace
import HandS.ReplaceLit
import HandS.RaiseMore
import PyProof.ReprBulk
import HandS.IterVal
import PyProof.ReprReads
import PySem.Challenge.RW_falseglim_k42_orders_judged
import KE.DataCmp
set_option Elab.async false
set_option linter.all false
set_option maxRecDepth 100000
set_option maxHeartbeats 4000000
/-! Rules that ask nothing of the kinds: one rule for each sign of Python, its reading told by the values. -/
namespace Fg
open PySem PySem.Spec PyProof.Rows L2

/-- a text by its signs -/
def S (l : List Nat) : V := .str ⟨l.toArray⟩
theorem S_inj {l m : List Nat} : S l = S m ↔ l = m := by
  constructor
  · intro h
    have h1 := V.str.inj h
    have h2 := congrArg PySem.Str.cps h1
    exact List.toArray_inj h2
  · rintro rfl; rfl
theorem S_dec {l m : List Nat} : decide (S l = S m) = decide (l = m) := by
  rw [Bool.eq_iff_iff]; simp [S_inj]
theorem str_len (l : List Nat) : (⟨l.toArray⟩ : Str).length = l.length := by
  show l.toArray.size = l.length
  simp
theorem pe_S {X : Cx} {x : Str} {j : Nat} {pos : Pos} (l : List Nat) (h : x = ⟨l.toArray⟩ := by decide +kernel) : PE X (.Constant (.str x) j pos) (tC (S l)) := by
  subst h
  exact pe_str

/-! ### either of two readings -/
def or2 (r r' : R2) : R2 := fun x y H Q => r x y H Q ∨ r' x y H Q
theorem or2_op {X : Cx} {f : Value → Value → Sem Value} {r r' : R2} (h : OpR X f r) (h' : OpR X f r') : OpR X f (or2 r r') := by
  intro pins s σ H x y v u Q I rx ry q
  rcases q with q | q
  · exact h pins s σ H x y v u Q I rx ry q
  · exact h' pins s σ H x y v u Q I rx ry q
theorem or2_ix {X : Cx} {r r' : R2} (h : IxR X r) (h' : IxR X r') : IxR X (or2 r r') := by
  intro value slice pins s σ H x y v u Q I rx ry q hs
  rcases q with q | q
  · exact h value slice pins s σ H x y v u Q I rx ry q hs
  · exact h' value slice pins s σ H x y v u Q I rx ry q hs
abbrev RC := List V → Hp → VK → Prop
def orC (r r' : RC) : RC := fun xs H Q => r xs H Q ∨ r' xs H Q
theorem orC_call {X : Cx} {f : Value} {r r' : RC} (h : CallR X f r) (h' : CallR X f r') : CallR X f (orC r r') := by
  intro pins s σ H xs us Q I rx q
  rcases q with q | q
  · exact h pins s σ H xs us Q I rx q
  · exact h' pins s σ H xs us Q I rx q
abbrev RS := V → Option Int → Option Int → Hp → VK → Prop
def orS (r r' : RS) : RS := fun x lo hi H Q => r x lo hi H Q ∨ r' x lo hi H Q
theorem orS_sl {X : Cx} {r r' : RS} (h : SlR X r) (h' : SlR X r') : SlR X (orS r r') := by
  intro pins s σ H x v vl vu lo hi sl Q I rx hs pl pu q
  rcases q with q | q
  · exact h pins s σ H x v vl vu lo hi sl Q I rx hs pl pu q
  · exact h' pins s σ H x v vl vu lo hi sl Q I rx hs pl pu q

/-! ### + - * // % ** -/
def rAddI : R2 := rI0 fun i j => .int (i + j)
def rAddT : R2 := fun x y H Q => ∃ i j, x = .str i ∧ y = .str j ∧ i.length + j.length ≤ sizeLine ∧ Q (.str (i ++ j)) H
def addP (K : PySem.W.Frag) : R2 := or2 rAddI (or2 rAddT (or2 rCat (rCatA K)))
theorem op_addP {X : Cx} : OpR X (binaryOp .Add) (addP X.K) := or2_op op_add (or2_op op_add_str (or2_op op_cat op_catA))
def subP : R2 := rI0 fun i j => .int (i - j)
theorem op_subP {X : Cx} : OpR X (binaryOp .Sub) subP := op_sub
/-- a text so many times -/
def rRepS : R2 := fun x y H Q => ∃ (l : List Nat) (n : Nat), x = S l ∧ y = .int (n : Int) ∧ l.length * n ≤ 100000 ∧ n ≤ 100000 ∧ Q (S (List.replicate n l).flatten) H
theorem foldl_app (l : List Nat) : ∀ (n : Nat) (acc : List Nat), (List.replicate n l.toArray).foldl (· ++ ·) acc.toArray = (acc ++ (List.replicate n l).flatten).toArray
  | 0, acc => by simp
  | n + 1, acc => by
    rw [List.replicate_succ, List.foldl_cons, List.append_toArray, foldl_app l n (acc ++ l), List.replicate_succ, List.flatten_cons, List.append_assoc]
theorem op_repS {X : Cx} : OpR X (binaryOp .Mult) rRepS := by
  intro pins s σ H x y v u Q I rx ry h
  obtain ⟨l, n, rfl, rfl, hz, hn, q⟩ := h
  obtain ⟨t, rfl⟩ := rx
  obtain ⟨t', rfl⟩ := ry
  have hl := str_len l
  have hs : sizeLine = 16777216 := sizeLine_eq
  refine PySem.P.mul_str ?_ (fun h1 h2 => ?_) (fun h1 h2 => ?_) ?_
  · rw [decide_eq_false (by omega), decide_eq_false (by omega)]; rfl
  · rw [hl]
    have hn0 : (0 : Int) < (n : Int) := by omega
    have : ((l.length : Int)) ≤ (2 ^ 63 - 1) / (n : Int) := by
      rw [Int.le_ediv_iff_mul_le hn0]
      have : ((l.length * n : Nat) : Int) ≤ 100000 := by omega
      rw [Int.natCast_mul] at this
      omega
    omega
  · rw [hl, Int.toNat_natCast]
    unfold PySem.Builtin.Str.tooLong
    rw [decide_eq_false]
    omega
  · by_cases h1 : (n : Int) < 1
    · rw [if_pos h1]
      have e : n = 0 := by omega
      subst e
      exact ⟨by decide, S [], H, I.tok _, ⟨_, rfl⟩, by simpa using q⟩
    · rw [if_neg h1]
      by_cases h2 : ((n : Int) == 1 || (⟨l.toArray⟩ : Str).length == 0) = true
      · rw [if_pos h2]
        have e : (List.replicate n l).flatten = l := by
          rw [hl, Bool.or_eq_true, beq_iff_eq, beq_iff_eq] at h2
          rcases h2 with h2 | h2
          · have e : n = 1 := by omega
            subst e; simp
          · have e : l = [] := List.length_eq_zero_iff.mp h2
            subst e; simp
        rw [e] at q
        exact ⟨S l, H, I, ⟨_, rfl⟩, q⟩
      · rw [if_neg h2]
        have e : (⟨(List.replicate ((n : Int)).toNat l.toArray).foldl (· ++ ·) #[]⟩ : Str) = ⟨((List.replicate n l).flatten).toArray⟩ := by
          rw [Int.toNat_natCast]
          have := foldl_app l n []
          simpa using this
        refine ⟨?_, S (List.replicate n l).flatten, H, I.tok _, ⟨_, by rw [e]⟩, q⟩
        rw [e, str_len]
        simp only [List.length_flatten, List.map_replicate, List.sum_replicate_nat]
        rw [Nat.mul_comm]
        omega
def rMulI : R2 := rI (fun i j => IntMulOk i j) fun i j => .int (i * j)
theorem op_mulI {X : Cx} : OpR X (binaryOp .Mult) rMulI := opI fun _ _ _ _ _ _ _ hc q => mul_int q hc
def mulP : R2 := or2 rMulI (or2 rRepS rRep)
theorem op_mulP {X : Cx} : OpR X (binaryOp .Mult) mulP := or2_op op_mulI (or2_op op_repS op_rep)
def modP : R2 := rI (fun _ j => 0 < j) fun i j => .int (i % j)
theorem op_modP {X : Cx} : OpR X (binaryOp .Mod) modP := op_mod
def fdivP : R2 := rI CDivW fun i j => .int (i / j)
theorem op_fdivP {X : Cx} : OpR X (binaryOp .FloorDiv) fdivP := op_fdivW
/-- i ** j, the result below some hundred million bits -/
def powP : R2 := rI (fun i j => 0 ≤ j ∧ (Builtin.Int.intBits i : Int) * j ≤ 2 ^ 27) fun i j => .int (i ^ j.toNat)
theorem op_powP {X : Cx} : OpR X (binaryOp .Pow) powP := opI fun _ _ _ _ _ _ _ hc q => pow_int hc.1 hc.2 q
/-! ### comparisons -/
def eqP (K : PySem.W.Frag) : R2 := or2 rEq (rEqD K)
theorem op_eqP {X : Cx} (hu : X.A.units + 64 < cLine) : OpR X (compareOp .Eq) (eqP X.K) := or2_op op_eq (op_eqD hu)
def neP (K : PySem.W.Frag) : R2 := or2 rNe (rNeD K)
theorem op_neP {X : Cx} (hu : X.A.units + 64 < cLine) : OpR X (compareOp .NotEq) (neP X.K) := or2_op op_ne (op_neD hu)
def ltP : R2 := or2 (rI0 fun i j => .bl (decide (i < j))) fun x y H Q => ∃ i j, x = .str i ∧ y = .str j ∧ Q (.bl (decide (i.cps.toList < j.cps.toList))) H
theorem op_ltP {X : Cx} : OpR X (compareOp .Lt) ltP := or2_op op_lt op_lt_str
def leP : R2 := rI0 fun i j => .bl (decide (i ≤ j))
theorem op_leP {X : Cx} : OpR X (compareOp .LtE) leP := op_le
def gtP : R2 := rI0 fun i j => .bl (decide (j < i))
theorem op_gtP {X : Cx} : OpR X (compareOp .Gt) gtP := op_gt
def geP : R2 := rI0 fun i j => .bl (decide (j ≤ i))
theorem op_geP {X : Cx} : OpR X (compareOp .GtE) geP := op_ge
def isP : R2 := fun x y H Q => y = .non ∧ Q (.bl (decide (x = .non))) H
theorem op_isP {X : Cx} : OpR X (compareOp .Is) isP := op_isN
def isNotP : R2 := fun x y H Q => y = .non ∧ Q (.bl (!decide (x = .non))) H
theorem op_isNotP {X : Cx} : OpR X (compareOp .IsNot) isNotP := op_notN
def rInSg : R2 := fun x y H Q => ∃ (c : Nat) (z : Str), x = .str ⟨#[c]⟩ ∧ y = .str z ∧ Q (.bl (decide (c ∈ z.cps.toList))) H
def rNotInSg : R2 := fun x y H Q => ∃ (c : Nat) (z : Str), x = .str ⟨#[c]⟩ ∧ y = .str z ∧ Q (.bl (!decide (c ∈ z.cps.toList))) H
def inP (K : PySem.W.Frag) : R2 := or2 rInSg (rIn K false)
theorem op_inP {X : Cx} : OpR X (compareOp .In) (inP X.K) := or2_op op_in_sign op_in_seq
def notInP (K : PySem.W.Frag) : R2 := or2 rNotInSg (rIn K true)
theorem op_notInP {X : Cx} : OpR X (compareOp .NotIn) (notInP X.K) := or2_op op_notIn_sign op_notIn_seq
/-! ### subscripts, slices -/
def ixP (K : PySem.W.Frag) : R2 := or2 (rIxL K) (or2 (rIxT K) rIxS)
theorem ix_P {X : Cx} : IxR X (ixP X.K) := or2_ix ix_list (or2_ix ix_tup ix_str)
def slP (K : PySem.W.Frag) : RS := orS (rSlL K) (orS (rSlA K) rSlS)
theorem sl_P {X : Cx} : SlR X (slP X.K) := orS_sl sl_list (orS_sl sl_tupA sl_str)
/-! ### what is walked -/
def iAny (K : PySem.W.Frag) (te : TE) : TI := fun σ H R => te σ H fun x H1 => (∃ a xs, x = .ref a ∧ SqL K H1 a xs ∧ R (Itl K a) H1) ∨ (∃ a xs, x = .ref a ∧ SqT K H1 a xs ∧ R (Itt K a) H1) ∨ (∃ z, x = .str z ∧ R (Its z) H1)
section
variable {X : Cx} {tg e : Expr} {te : TE}
theorem pi_any (he : PE X e te) : PI X tg e (iAny X.K te) := by
  refine ⟨fun pins s σ H R I h => thn (he.run pins s σ H _ I h) fun v s1 ⟨x, H1, J, r1, q1⟩ => ?_⟩
  rcases q1 with ⟨a, xs, rfl, hq, q⟩ | ⟨a, xs, rfl, hq, q⟩ | ⟨z, rfl, q⟩
  · cases r1
    obtain ⟨its, rv, pl, hz⟩ := J.list hq
    exact wpAny_pyIter_list pl.isList (pi_one (tk := s1.toks) J _ (turn_list a _) ⟨_, Heap.get?_push_size _ rfl, rfl, rfl⟩ q)
  · cases r1
    obtain ⟨its, rv, pl, hz⟩ := J.tuple hq
    exact wpAny_pyIter_tuple (show s1.heap.IsTuple a its.toArray from pl) (pi_one (tk := s1.toks) J _ (turn_tuple a _) ⟨_, Heap.get?_push_size _ rfl, rfl, rfl⟩ q)
  · obtain ⟨t, rfl⟩ := r1
    cases hw : z.cps.all (· < 128)
    · exact wpAny_pyIter_wide hw (pi_one (tk := s1.toks) J _ (turn_str _ z t "str_iterator" (.inr rfl)) ⟨_, Heap.get?_push_size _ rfl, rfl, rfl⟩ q)
    · exact wpAny_pyIter_ascii hw (pi_one (tk := s1.toks) J _ (turn_str _ z t "str_ascii_iterator" (.inl rfl)) ⟨_, Heap.get?_push_size _ rfl, rfl, rfl⟩ q)
end
/-! ### enumerate(a text) -/
/-- the signs of z, each in a new pair with its place -/
def Ites (z : Str) : It :=
  ⟨fun i _ => i < z.cps.size, fun i H v H' => ∃ T c, v = .ref T ∧ H T = none ∧ H' = upd H T (.tup [.int (i : Nat), .str ⟨#[c]⟩]) ∧ z.cps[i]? = some c, fun i _ => i = z.cps.size⟩
theorem turn_enumS {P : Program} {w : World} {K : PySem.W.Frag} {elts : List Expr} {kk : Nat} {tpos : Pos} (z : Str) (t : Tok) (e it : Addr) :
    Turn P w K (.Tuple elts kk tpos) (Ites z) [e, it] e (fun i h => (∃ old, IsEnum h e it ((i : Nat) : Int) old) ∧ h.IsStrIter it (strIterType z) z t i ∧ e ≠ it) where
  mem := List.mem_cons_self ..
  obj := fun i h st b hb => by
    obtain ⟨⟨old, hE⟩, ⟨o, hO, hC, hD⟩, _⟩ := st
    rcases List.mem_cons.mp hb with rfl | hb
    · exact ⟨_, hE, fun v q => nomatch q⟩
    · rw [List.mem_singleton.mp hb]
      exact ⟨o, hO, fun v q => by rw [hD] at q; cases q⟩
  keep := fun i h h' st k => by
    obtain ⟨⟨old, hE⟩, ⟨o, hO, r⟩, hne⟩ := st
    exact ⟨⟨old, k e (by simp) _ hE⟩, ⟨o, k it (by simp) _ hO, r⟩, hne⟩
  item := by
    intro X hP hW hK hc i pins s σ H E I hf st hg
    subst hP hW hK
    obtain ⟨⟨old, hE⟩, hS, hne⟩ := st
    have le : e < s.heap.objs.size := Heap.lt_size hE
    have li : it < s.heap.objs.size := by obtain ⟨_, q, _⟩ := hS; exact Heap.lt_size q
    have D := Draws.text (prog := X.prog) (w := X.w) (A := X.A.in1) (I.ok.hd hc) it z t
    refine wpAny_pyNext_enum_itemC D hE hS hg hne (by simp [hne]) fun x h' tk hx hO hS' hT hsz hk => ?_
    obtain ⟨c, u, hcx, rfl⟩ := hx
    refine ⟨_, rfl, wpAny_letOwnedTupleGo_enum (s := { s with heap := h', toks := tk + 1 }) hO fun h2 hE2 sb => ?_⟩
    have T2 : h2.get? s.heap.objs.size = some { cls := .type "tuple", data := .seq #[.int i tk, .str ⟨#[c]⟩ u] } := (sb.2 _ (Nat.ne_of_gt le)).trans hT
    have new : ObjOk X.prog X.w (upd H s.heap.objs.size (.tup [.int (i : Nat), .str ⟨#[c]⟩])) h2 s.heap.objs.size (.tup [.int (i : Nat), .str ⟨#[c]⟩]) :=
      ⟨by show 2 ≤ sizeLine; decide, [.int i tk, .str ⟨#[c]⟩ u], .cons ⟨_, rfl⟩ (.cons ⟨_, rfl⟩ .nil), ⟨_, T2, rfl, _, rfl⟩⟩
    have J : Inv X pins σ (upd H s.heap.objs.size (.tup [.int (i : Nat), .str ⟨#[c]⟩])) { s with heap := h2, toks := tk + 1 } :=
      I.turnedNew (ch := [e, it]) (fun b ob hb q => (sb.2 b (fun y => hb (by simp [y]))).trans (hk b ob (fun y => hb (by simp [y])) (fun y => hb (by simp [y])) q)) hf (Nat.le_refl _) new
    refine ⟨.ref s.heap.objs.size, _, J, rfl, ⟨_, c, rfl, I.hok.fresh (Nat.le_refl _), rfl, hcx⟩, ⟨⟨.str ⟨#[c]⟩ u, ?_⟩, ?_, hne⟩, fun b hb => ?_⟩
    · have e1 : ((i + 1 : Nat) : Int) = (i : Int) + 1 := by omega
      rw [e1]
      exact hE2
    · obtain ⟨o, ho, r⟩ := hS'
      exact ⟨o, (sb.2 it (Ne.symm hne)).trans ho, r⟩
    · have lb : b < s.heap.objs.size := by
        rcases List.mem_cons.mp hb with rfl | hb
        · exact le
        · rw [List.mem_singleton.mp hb]; exact li
      rw [upd_ne (Nat.ne_of_lt lb)]
      exact (hf b hb).1
  done := by
    intro X hP hW hK hc i pins s σ H E I hf st hg
    subst hP hW hK
    obtain ⟨⟨old, hE⟩, hS, hne⟩ := st
    obtain ⟨f0, f1, f2, f3, f4, f5⟩ := hf it (by simp)
    have D := Draws.text (prog := X.prog) (w := X.w) (A := X.A.in1) (I.ok.hd hc) it z t
    have hg' : i = z.cps.size := hg
    subst hg'
    exact wpAny_pyNext_enum_endD D hE hS fun h' eb => ⟨rfl, I.turned (t' := s.toks) (fun b o hb q => eb b o hb q) f0 f1 f3 f4 f5⟩
  self := fun A i s Q E st h => by
    obtain ⟨⟨_, hE⟩, _⟩ := st
    exact wpAny_pyIter_enum hE h
def iEnumP (K : PySem.W.Frag) (ta : TA) : TI := fun σ H R => ta σ H fun vs H1 => (∃ a xs, vs = [.ref a] ∧ SqL K H1 a xs ∧ R (Ite K a) H1) ∨ (∃ z, vs = [.str z] ∧ R (Ites z) H1)
theorem pi_enumP {X : Cx} {e : Expr} {ta : TA} {p pos tpos : Pos} {elts : List Expr} {kk : Nat} (hg : Gl X "enumerate") (hm : X.mg "enumerate" = none) (ha : PA X [e] ta) (hs : starEach [e] X.env = [(false, eval e X.env)] := by rfl) :
    PI X (.Tuple elts kk tpos) (.Call (.Name "enumerate" p) [e] [] pos) (iEnumP X.K ta) := by
  refine ⟨fun pins s σ H R I h => Call_ (ld_blt I hg hm boot_enumerate (PyProof.Rows.callWith_type1 (thn (ha.run pos pins s σ H _ I h) fun us s1 ⟨vs, H1, J, r1, q1⟩ => ?_) hs rfl))⟩
  have far : ∀ b ∈ [s1.heap.objs.size + 1, s1.heap.objs.size], s1.heap.objs.size ≤ b := fun b hb => by
    rcases List.mem_cons.mp hb with rfl | hb
    · exact Nat.le_succ _
    · rw [List.mem_singleton.mp hb]; exact Nat.le_refl _
  rcases q1 with ⟨a, xs, rfl, hq, q⟩ | ⟨z, rfl, q⟩
  · cases r1 with
    | cons r rr =>
      cases rr
      cases r
      obtain ⟨its, rv, pl, hz⟩ := J.list hq
      refine call_enumerate_list pl.isList fun h' hE hit hsz hk => wpAny_pyIter_enum hE ?_
      have J2 : Inv X pins σ H1 { s1 with heap := h' } := J.kept (t' := s1.toks) hk
      exact ⟨_, _, _, _, H1, rfl, J2, turn_enum a (s1.heap.objs.size + 1) s1.heap.objs.size, ⟨⟨.none, hE⟩, hit, Nat.succ_ne_self _⟩, fun b hb => J.fpOk (far b hb) (J.hok.fresh (far b hb)), q⟩
  · cases r1 with
    | cons r rr =>
      cases rr
      obtain ⟨t, rfl⟩ := r
      refine call_enumerate_str fun h' hE hit hsz hk => wpAny_pyIter_enum hE ?_
      have J2 : Inv X pins σ H1 { s1 with heap := h' } := J.kept (t' := s1.toks) hk
      exact ⟨_, _, _, _, H1, rfl, J2, turn_enumS z t (s1.heap.objs.size + 1) s1.heap.objs.size, ⟨⟨.none, hE⟩, hit, Nat.succ_ne_self _⟩, fun b hb => J.fpOk (far b hb) (J.hok.fresh (far b hb)), q⟩
end Fg
/-! Steps: what a reading asks, one sign of Python at a time. -/
namespace Fg
open PySem PySem.Spec PyProof.Rows L2
section
variable {K : PySem.W.Frag} {σ : L2.St} {H : Hp} {Q : VK} {D : Ends} {ta tb tc te : TE} {t u : TT} {i j : Nat} {v x y : V} {tr tq : TS} {QB : Bool → Hp → Prop} {QL : List V → Hp → Prop} {Qs : L2.St → Hp → Prop} {tl : TA}
theorem i_var (h : σ[i]? = some (some v)) (q : Q v H) : tVar i σ H Q := ⟨v, h, q⟩
theorem i_c (q : Q v H) : tC v σ H Q := q
theorem i_seq (q : tr { D with nx := tq D } σ H) : tSeq tr tq D σ H := q
theorem i_next (q : D.nx σ H) : tNext D σ H := q
theorem i_brk (q : D.bk σ H) : tBreak D σ H := q
theorem i_cont (q : D.ct σ H) : tCont D σ H := q
theorem i_asg {g : TG} (q : te σ H fun x H1 => g x σ H1 D.nx) : tAsg te g D σ H := q
theorem i_gname (q : Qs (σ.set i (some v)) H) : gName i v σ H Qs := q
theorem i_gname' {σ' : L2.St} (e : σ.set i (some v) = σ') (q : Qs σ' H) : gName i v σ H Qs := by
  subst e; exact q
theorem i_ret (q : te σ H D.rt) : tRet te D σ H := q
theorem i_retN (q : D.rt .non H) : tRetN D σ H := q
theorem i_drop (q : te σ H fun _ H1 => D.nx σ H1) : tDrop te D σ H := q
theorem i_ifS (q : t σ H fun b H1 => if b = true then tr D σ H1 else tq D σ H1) : tIfS t tr tq D σ H := q
theorem i_test (q : te σ H fun x H' => ∃ k, x = .bl k ∧ QB k H') : tTest te σ H QB := q
theorem i_B (q : te σ H fun x H' => ∃ k, x = .bl k ∧ QB k H') : tB te σ H QB := q
theorem i_exbl {P : Bool → Prop} {b : Bool} (q : P b) : ∃ k, V.bl b = .bl k ∧ P k := ⟨b, rfl, q⟩
theorem i_and (q : t σ H fun c H1 => if c = true then u σ H1 QB else QB false H1) : tAnd t u σ H QB := q
theorem i_or (q : t σ H fun c H1 => if c = true then QB true H1 else u σ H1 QB) : tOr t u σ H QB := q
theorem i_not (q : t σ H fun c H1 => QB (!c) H1) : tNot t σ H QB := q
theorem i_andV (q : ta σ H fun x H1 => ∃ c, x = .bl c ∧ if c = true then tb σ H1 Q else Q (.bl false) H1) : tAndV ta tb σ H Q := q
theorem i_orV (q : ta σ H fun x H1 => ∃ c, x = .bl c ∧ if c = true then Q (.bl true) H1 else tb σ H1 Q) : tOrV ta tb σ H Q := q
theorem i_notV (q : ta σ H fun x H1 => ∃ c, x = .bl c ∧ Q (.bl (!c)) H1) : tNotV ta σ H Q := q
theorem i_ifE (q : t σ H fun c H1 => if c = true then ta σ H1 Q else tb σ H1 Q) : tIf t ta tb σ H Q := q
theorem i_op {r : R2} (q : ta σ H fun x H1 => tb σ H1 fun y H2 => r x y H2 Q) : tOp r ta tb σ H Q := q
theorem i_un {r : V → Hp → VK → Prop} (q : ta σ H fun x H1 => r x H1 Q) : tUn r ta σ H Q := q
theorem i_neg {k : Int} (q : Q (.int (-k)) H) : rU (fun i => .int (-i)) (.int k) H Q := ⟨k, rfl, q⟩
theorem i_chain {r r' : R2} (q : ta σ H fun x H1 => tb σ H1 fun y H2 => r x y H2 fun z H3 => ∃ k, z = .bl k ∧ (if k = true then tc σ H3 fun w' H4 => r' y w' H4 Q else Q (.bl false) H3)) : tChain r r' ta tb tc σ H Q := q
theorem i_nil (q : QL [] H) : tNil σ H QL := q
theorem i_cons (q : te σ H fun x H1 => tl σ H1 fun xs H2 => QL (x :: xs) H2) : tCons te tl σ H QL := q
theorem i_call {sp : Sp} {E : XK} (q : tl σ H fun vs H1 => sp (vs ++ []) H1 Q E) : tCall sp [] E tl σ H Q := q
theorem i_callS {sp : Sp} {E : L2.St → XK} (q : tl σ H fun vs H1 => sp vs H1 Q (E σ)) : tCallS sp E tl σ H Q := q
theorem i_cb {r : RC} (q : tl σ H fun vs H1 => r vs H1 Q) : tCB r tl σ H Q := q
theorem i_tup (q : tl σ H fun xs H1 => xs.length ≤ sizeLine ∧ ∀ p, H1 p = none → Q (.ref p) (upd H1 p (.tup xs))) : tTup tl σ H Q := q
theorem i_lst (q : tl σ H fun xs H1 => xs.length ≤ sizeLine ∧ ∀ p, H1 p = none → Q (.ref p) (upd H1 p (.lst xs))) : tLst tl σ H Q := q
theorem i_new {n : Nat} {P : Addr → Prop} (h : n ≤ 100000) (q : ∀ p, H p = none → P p) : n ≤ sizeLine ∧ ∀ p, H p = none → P p := ⟨Nat.le_trans h (by decide), q⟩
theorem i_sl {r : RS} {t1 t2 : TO} (q : te σ H fun x H1 => t1 σ H1 fun l H2 => t2 σ H2 fun u H3 => r x l u H3 Q) : tSl r te t1 t2 σ H Q := q
theorem i_nopart {QO : Option Int → Hp → Prop} (q : QO none H) : tNoPart σ H QO := q
theorem i_part {QO : Option Int → Hp → Prop} (q : te σ H fun x H1 => ∃ i, x = .int i ∧ QO (some i) H1) : tPart te σ H QO := q
theorem i_exint {P : Int → Prop} {k : Int} (q : P k) : ∃ i, V.int k = .int i ∧ P i := ⟨k, rfl, q⟩
theorem i_dec {c : Prop} [Decidable c] {A B : Prop} (h1 : c → A) (h2 : ¬ c → B) : if decide c = true then A else B := by
  by_cases h : c
  · rw [decide_eq_true h, if_pos rfl]; exact h1 h
  · rw [decide_eq_false h, if_neg (by decide)]; exact h2 h
theorem i_decN {c : Prop} [Decidable c] {A B : Prop} (h1 : ¬ c → A) (h2 : c → B) : if (!decide c) = true then A else B := by
  by_cases h : c
  · rw [decide_eq_true h]; exact h2 h
  · rw [decide_eq_false h]; exact h1 h
theorem i_bool {b : Bool} {A B : Prop} (h1 : b = true → A) (h2 : b = false → B) : if b = true then A else B := by
  cases b with
  | true => exact h1 rfl
  | false => exact h2 rfl
theorem i_tt {A B : Prop} (h : A) : if true = true then A else B := h
theorem i_ff {A B : Prop} (h : B) : if false = true then A else B := h
theorem i_nott {A B : Prop} (h : B) : if (!true) = true then A else B := h
theorem i_notf {A B : Prop} (h : A) : if (!false) = true then A else B := h
/-! values -/
variable {a b : Int} {l m : List Nat}
theorem i_add_int (q : Q (.int (a + b)) H) : addP K (.int a) (.int b) H Q := .inl ⟨a, b, rfl, rfl, q⟩
theorem i_add_str (h : l.length + m.length ≤ 100000) (q : Q (S (l ++ m)) H) : addP K (S l) (S m) H Q := by
  refine .inr (.inl ⟨⟨l.toArray⟩, ⟨m.toArray⟩, rfl, rfl, ?_, ?_⟩)
  · rw [str_len, str_len]; exact Nat.le_trans h (by decide)
  · have e : (⟨l.toArray⟩ : Str) ++ ⟨m.toArray⟩ = ⟨(l ++ m).toArray⟩ := by
      show (⟨l.toArray ++ m.toArray⟩ : Str) = _
      rw [List.append_toArray]
    rw [e]; exact q
theorem i_sub (q : Q (.int (a - b)) H) : subP (.int a) (.int b) H Q := ⟨a, b, rfl, rfl, q⟩
theorem i_mul_int (h : IntMulOk a b) (q : Q (.int (a * b)) H) : mulP (.int a) (.int b) H Q := .inl ⟨a, b, rfl, rfl, h, q⟩
theorem i_mul_str {n : Nat} (h : l.length * n ≤ 100000 ∧ n ≤ 100000) (q : Q (S (List.replicate n l).flatten) H) : mulP (S l) (.int (n : Int)) H Q := .inr (.inl ⟨l, n, rfl, rfl, h.1, h.2, q⟩)
theorem i_mul_strI {k : Int} (h0 : 0 ≤ k) (h : l.length * k.toNat ≤ 100000 ∧ k.toNat ≤ 100000) (q : Q (S (List.replicate k.toNat l).flatten) H) : mulP (S l) (.int k) H Q := by
  obtain ⟨n, rfl⟩ : ∃ n : Nat, k = (n : Int) := ⟨k.toNat, by omega⟩
  rw [Int.toNat_natCast] at h q
  exact i_mul_str h q
theorem cdiv_small {a b : Int} (h : 0 < b) (h2 : b < 2 ^ 62) : CDivW a b := wide_div (b := 62) h (by omega) (by decide) (by decide)
theorem mul_small {a b : Int} (h : -(2 ^ 64) < a) (h2 : a < 2 ^ 64) : IntMulOk a b := CMul.ok (.inl ⟨h, h2⟩)
theorem mul_smallR {a b : Int} (h : -(2 ^ 64) < b) (h2 : b < 2 ^ 64) : IntMulOk a b := CMul.ok (.inr ⟨h, h2⟩)
theorem i_mod (h : 0 < b) (q : Q (.int (a % b)) H) : modP (.int a) (.int b) H Q := ⟨a, b, rfl, rfl, h, q⟩
theorem i_fdiv (h : CDivW a b) (q : Q (.int (a / b)) H) : fdivP (.int a) (.int b) H Q := ⟨a, b, rfl, rfl, h, q⟩
theorem i_pow (h : 0 ≤ b ∧ (Builtin.Int.intBits a : Int) * b ≤ 2 ^ 27) (q : Q (.int (a ^ b.toNat)) H) : powP (.int a) (.int b) H Q := ⟨a, b, rfl, rfl, h, q⟩
theorem i_eq_int (q : Q (.bl (decide (a = b))) H) : eqP K (.int a) (.int b) H Q := .inl ⟨rfl, by rw [dec_int, Bool.beq_eq_decide_eq]; exact q⟩
theorem i_eq_str (q : Q (.bl (decide (l = m))) H) : eqP K (S l) (S m) H Q := .inl ⟨rfl, by rw [S_dec]; exact q⟩
theorem i_ne_int (q : Q (.bl (!decide (a = b))) H) : neP K (.int a) (.int b) H Q := .inl ⟨rfl, by rw [dec_int, Bool.beq_eq_decide_eq]; exact q⟩
theorem i_ne_str (q : Q (.bl (!decide (l = m))) H) : neP K (S l) (S m) H Q := .inl ⟨rfl, by rw [S_dec]; exact q⟩
theorem i_eq_bl {b c : Bool} (q : Q (.bl (decide (b = c))) H) : eqP K (.bl b) (.bl c) H Q := .inl ⟨rfl, by rw [dec_bl, Bool.beq_eq_decide_eq]; exact q⟩
theorem i_ne_bl {b c : Bool} (q : Q (.bl (!decide (b = c))) H) : neP K (.bl b) (.bl c) H Q := .inl ⟨rfl, by rw [dec_bl, Bool.beq_eq_decide_eq]; exact q⟩
theorem i_lt (q : Q (.bl (decide (a < b))) H) : ltP (.int a) (.int b) H Q := .inl ⟨a, b, rfl, rfl, q⟩
theorem i_lt_str (q : Q (.bl (decide (l < m))) H) : ltP (S l) (S m) H Q := .inr ⟨_, _, rfl, rfl, by simpa using q⟩
theorem i_le (q : Q (.bl (decide (a ≤ b))) H) : leP (.int a) (.int b) H Q := ⟨a, b, rfl, rfl, q⟩
theorem i_gt (q : Q (.bl (decide (b < a))) H) : gtP (.int a) (.int b) H Q := ⟨a, b, rfl, rfl, q⟩
theorem i_ge (q : Q (.bl (decide (b ≤ a))) H) : geP (.int a) (.int b) H Q := ⟨a, b, rfl, rfl, q⟩
theorem i_is_non (q : Q (.bl true) H) : isP .non .non H Q := ⟨rfl, q⟩
theorem i_is_int (q : Q (.bl false) H) : isP (.int a) .non H Q := ⟨rfl, q⟩
theorem i_is_str (q : Q (.bl false) H) : isP (S l) .non H Q := ⟨rfl, q⟩
theorem i_is_ref {p : Addr} (q : Q (.bl false) H) : isP (.ref p) .non H Q := ⟨rfl, q⟩
theorem i_isn_non (q : Q (.bl false) H) : isNotP .non .non H Q := ⟨rfl, q⟩
theorem i_isn_int (q : Q (.bl true) H) : isNotP (.int a) .non H Q := ⟨rfl, q⟩
theorem i_isn_str (q : Q (.bl true) H) : isNotP (S l) .non H Q := ⟨rfl, q⟩
theorem i_isn_ref {p : Addr} (q : Q (.bl true) H) : isNotP (.ref p) .non H Q := ⟨rfl, q⟩
theorem i_in_sg {c : Nat} (q : Q (.bl (decide (c ∈ m))) H) : inP K (S [c]) (S m) H Q := .inl ⟨c, ⟨m.toArray⟩, rfl, rfl, by simpa using q⟩
theorem i_notIn_sg {c : Nat} (q : Q (.bl (!decide (c ∈ m))) H) : notInP K (S [c]) (S m) H Q := .inl ⟨c, ⟨m.toArray⟩, rfl, rfl, by simpa using q⟩
/-! subscripts -/
theorem atI_int {xs : List V} {z : Int} {v : V} (h0 : 0 ≤ z) (h : xs[z.toNat]? = some v) : atI xs z = some v := at_of (j := z.toNat) (by omega) h
theorem i_ix_lst {p : Addr} {xs : List V} {z : Int} {v : V} (hs : SqL K H p xs) (ha : atI xs z = some v) (q : Q v H) : ixP K (.ref p) (.int z) H Q := .inl ⟨p, xs, z, v, rfl, rfl, hs, ha, q⟩
theorem i_ix_tup {p : Addr} {xs : List V} {z : Int} {v : V} (hs : SqT K H p xs) (ha : atI xs z = some v) (q : Q v H) : ixP K (.ref p) (.int z) H Q := .inr (.inl ⟨p, xs, z, v, rfl, rfl, hs, ha, q⟩)
theorem i_ix_str {z : Int} {c : Nat} (hs : l.length ≤ 100000) (h0 : 0 ≤ z) (ha : l[z.toNat]? = some c) (q : Q (S [c]) H) : ixP K (S l) (.int z) H Q := by
  refine .inr (.inr ⟨⟨l.toArray⟩, z, c, rfl, rfl, ?_, ?_, q⟩)
  · rw [str_len]; exact Nat.le_trans hs (by decide)
  · have e : z = ((z.toNat : Nat) : Int) := by omega
    rw [e]
    exact atI_nat (by simpa using ha)
/-! slices -/
def cutN (l : List Nat) (lo hi : Option Int) : List Nat := (l.drop (HT.sIx l.length 0 lo)).take (HT.sIx l.length l.length hi - HT.sIx l.length 0 lo)
theorem i_sl_str {lo hi : Option Int} (hs : l.length ≤ 100000) (q : Q (S (cutN l lo hi)) H) : slP K (S l) lo hi H Q := by
  refine .inr (.inr ⟨⟨l.toArray⟩, rfl, ?_, ?_⟩)
  · rw [str_len]; exact Nat.le_trans hs (by decide)
  · have e : cutS ⟨l.toArray⟩ lo hi = ⟨(cutN l lo hi).toArray⟩ := by
      unfold cutS cutN
      rw [str_len]
    rw [e]; exact q
theorem cutN_to {l : List Nat} {k : Int} (h : 0 ≤ k) : cutN l none (some k) = l.take k.toNat := by
  unfold cutN
  have e : k = ((k.toNat : Nat) : Int) := by omega
  rw [e, HT.sIx_nat, HT.sIx_none, Nat.sub_zero, List.drop_zero, Int.toNat_natCast]
  by_cases hk : k.toNat ≤ l.length
  · rw [Nat.min_eq_left hk]
  · rw [Nat.min_eq_right (by omega), List.take_length, List.take_of_length_le (by omega)]
theorem cutN_from {l : List Nat} {k : Int} (h : 0 ≤ k) : cutN l (some k) none = l.drop k.toNat := by
  unfold cutN
  have e : k = ((k.toNat : Nat) : Int) := by omega
  rw [e, HT.sIx_nat, HT.sIx_none, Int.toNat_natCast]
  by_cases hk : k.toNat ≤ l.length
  · rw [Nat.min_eq_left hk]
    exact List.take_of_length_le (by rw [List.length_drop]; omega)
  · rw [Nat.min_eq_right (by omega), Nat.sub_self, List.take_zero, List.drop_of_length_le (by omega)]
theorem i_sl_to {k : Int} (hs : l.length ≤ 100000) (h0 : 0 ≤ k) (q : Q (S (l.take k.toNat)) H) : slP K (S l) none (some k) H Q := i_sl_str hs (by rw [cutN_to h0]; exact q)
theorem i_sl_from {k : Int} (hs : l.length ≤ 100000) (h0 : 0 ≤ k) (q : Q (S (l.drop k.toNat)) H) : slP K (S l) (some k) none H Q := i_sl_str hs (by rw [cutN_from h0]; exact q)
/-! calls of what is built in -/
def rLenP (K : PySem.W.Frag) : RC := fun xs H Q => ∃ x n, xs = [x] ∧ LenV K x H n ∧ Q (.int n) H
theorem call_lenP {X : Cx} : CallR X (.builtin "len") (rLenP X.K) := call_len
theorem i_len_str (hs : l.length ≤ 100000) (q : Q (.int (l.length : Int)) H) : rLenP K [S l] H Q := ⟨S l, l.length, rfl, ⟨by rw [str_len]; exact Nat.le_trans hs (by decide), (str_len l).symm⟩, q⟩
theorem i_len_lst {p : Addr} {xs : List V} (hs : SqL K H p xs) (q : Q (.int (xs.length : Int)) H) : rLenP K [.ref p] H Q := ⟨.ref p, xs.length, rfl, .inl ⟨xs, hs, rfl⟩, q⟩
theorem i_len_tup {p : Addr} {xs : List V} (hs : SqT K H p xs) (q : Q (.int (xs.length : Int)) H) : rLenP K [.ref p] H Q := ⟨.ref p, xs.length, rfl, .inr ⟨xs, hs, rfl⟩, q⟩
def rIntP : RC := fun xs H Q => (∃ i, xs = [.int i] ∧ Q (.int i) H) ∨ ∃ k, xs = [.bl k] ∧ Q (.int (if k then 1 else 0)) H
theorem call_intP {X : Cx} : CallR X (.type "int") rIntP := call_int1
theorem i_int_int (q : Q (.int a) H) : rIntP [.int a] H Q := .inl ⟨a, rfl, q⟩
def rAbsP : RC := fun xs H Q => ∃ i, xs = [.int i] ∧ Q (.int (if i < 0 then -i else i)) H
theorem call_absP {X : Cx} : CallR X (.builtin "abs") rAbsP := call_abs
theorem i_abs (q : Q (.int (if a < 0 then -a else a)) H) : rAbsP [.int a] H Q := ⟨a, rfl, q⟩
theorem i_sum {p : Addr} {ns : List Int} (hs : SqL K H p (ns.map V.int)) (q : Q (.int ns.sum) H) : rSum K [.ref p] H Q := ⟨p, ns, rfl, hs, q⟩
def rTupP (K : PySem.W.Frag) : RC := fun xs H Q => ∃ p ys, xs = [.ref p] ∧ ((SqL K H p ys ∧ ∀ l, H l = none → Q (.ref l) (upd H l (.tup ys))) ∨ (SqT K H p ys ∧ Q (.ref p) H))
theorem call_tupP {X : Cx} : CallR X (.type "tuple") (rTupP X.K) := call_tuple_of
theorem i_tuple_lst {p : Addr} {ys : List V} (hs : SqL K H p ys) (q : ∀ l, H l = none → Q (.ref l) (upd H l (.tup ys))) : rTupP K [.ref p] H Q := ⟨p, ys, rfl, .inl ⟨hs, q⟩⟩
theorem i_all {p : Addr} {bs : List Bool} (hs : SqL K H p (bs.map V.bl)) (q : Q (.bl (bs.all id)) H) : rAll K [.ref p] H Q := ⟨p, bs, rfl, hs, q⟩
theorem i_isi_non_int (q : Q (.bl false) H) : rIsi K [.non, .ty "int"] H Q := ⟨_, _, _, _, false, rfl, .ty _, .base .non, kit_ty (by decide +kernel), q⟩
theorem i_isi_non_bool (q : Q (.bl false) H) : rIsi K [.non, .ty "bool"] H Q := ⟨_, _, _, _, false, rfl, .ty _, .base .non, kit_ty (by decide +kernel), q⟩
theorem i_isi_non_str (q : Q (.bl false) H) : rIsi K [.non, .ty "str"] H Q := ⟨_, _, _, _, false, rfl, .ty _, .base .non, kit_ty (by decide +kernel), q⟩
theorem i_isi_non_tuple (q : Q (.bl false) H) : rIsi K [.non, .ty "tuple"] H Q := ⟨_, _, _, _, false, rfl, .ty _, .base .non, kit_ty (by decide +kernel), q⟩
theorem i_isi_non_list (q : Q (.bl false) H) : rIsi K [.non, .ty "list"] H Q := ⟨_, _, _, _, false, rfl, .ty _, .base .non, kit_ty (by decide +kernel), q⟩
theorem i_isi_bl_int {b : Bool} (q : Q (.bl true) H) : rIsi K [(.bl b), .ty "int"] H Q := ⟨_, _, _, _, true, rfl, .ty _, .base (.bl b), kit_ty (by decide +kernel), q⟩
theorem i_isi_bl_bool {b : Bool} (q : Q (.bl true) H) : rIsi K [(.bl b), .ty "bool"] H Q := ⟨_, _, _, _, true, rfl, .ty _, .base (.bl b), kit_ty (by decide +kernel), q⟩
theorem i_isi_bl_str {b : Bool} (q : Q (.bl false) H) : rIsi K [(.bl b), .ty "str"] H Q := ⟨_, _, _, _, false, rfl, .ty _, .base (.bl b), kit_ty (by decide +kernel), q⟩
theorem i_isi_bl_tuple {b : Bool} (q : Q (.bl false) H) : rIsi K [(.bl b), .ty "tuple"] H Q := ⟨_, _, _, _, false, rfl, .ty _, .base (.bl b), kit_ty (by decide +kernel), q⟩
theorem i_isi_bl_list {b : Bool} (q : Q (.bl false) H) : rIsi K [(.bl b), .ty "list"] H Q := ⟨_, _, _, _, false, rfl, .ty _, .base (.bl b), kit_ty (by decide +kernel), q⟩
theorem i_isi_int_int {i : Int} (q : Q (.bl true) H) : rIsi K [(.int i), .ty "int"] H Q := ⟨_, _, _, _, true, rfl, .ty _, .base (.int i), kit_ty (by decide +kernel), q⟩
theorem i_isi_int_bool {i : Int} (q : Q (.bl false) H) : rIsi K [(.int i), .ty "bool"] H Q := ⟨_, _, _, _, false, rfl, .ty _, .base (.int i), kit_ty (by decide +kernel), q⟩
theorem i_isi_int_str {i : Int} (q : Q (.bl false) H) : rIsi K [(.int i), .ty "str"] H Q := ⟨_, _, _, _, false, rfl, .ty _, .base (.int i), kit_ty (by decide +kernel), q⟩
theorem i_isi_int_tuple {i : Int} (q : Q (.bl false) H) : rIsi K [(.int i), .ty "tuple"] H Q := ⟨_, _, _, _, false, rfl, .ty _, .base (.int i), kit_ty (by decide +kernel), q⟩
theorem i_isi_int_list {i : Int} (q : Q (.bl false) H) : rIsi K [(.int i), .ty "list"] H Q := ⟨_, _, _, _, false, rfl, .ty _, .base (.int i), kit_ty (by decide +kernel), q⟩
theorem i_isi_str_int {l : List Nat} (q : Q (.bl false) H) : rIsi K [(S l), .ty "int"] H Q := ⟨_, _, _, _, false, rfl, .ty _, .base (.str _), kit_ty (by decide +kernel), q⟩
theorem i_isi_str_bool {l : List Nat} (q : Q (.bl false) H) : rIsi K [(S l), .ty "bool"] H Q := ⟨_, _, _, _, false, rfl, .ty _, .base (.str _), kit_ty (by decide +kernel), q⟩
theorem i_isi_str_str {l : List Nat} (q : Q (.bl true) H) : rIsi K [(S l), .ty "str"] H Q := ⟨_, _, _, _, true, rfl, .ty _, .base (.str _), kit_ty (by decide +kernel), q⟩
theorem i_isi_str_tuple {l : List Nat} (q : Q (.bl false) H) : rIsi K [(S l), .ty "tuple"] H Q := ⟨_, _, _, _, false, rfl, .ty _, .base (.str _), kit_ty (by decide +kernel), q⟩
theorem i_isi_str_list {l : List Nat} (q : Q (.bl false) H) : rIsi K [(S l), .ty "list"] H Q := ⟨_, _, _, _, false, rfl, .ty _, .base (.str _), kit_ty (by decide +kernel), q⟩
theorem i_isi_tup_int {a : Addr} {xs : List V} (h : H a = some (.tup xs)) (q : Q (.bl false) H) : rIsi K [(.ref a), .ty "int"] H Q := ⟨_, _, _, _, false, rfl, .ty _, .base (.tup h), kit_ty (by decide +kernel), q⟩
theorem i_isi_tup_bool {a : Addr} {xs : List V} (h : H a = some (.tup xs)) (q : Q (.bl false) H) : rIsi K [(.ref a), .ty "bool"] H Q := ⟨_, _, _, _, false, rfl, .ty _, .base (.tup h), kit_ty (by decide +kernel), q⟩
theorem i_isi_tup_str {a : Addr} {xs : List V} (h : H a = some (.tup xs)) (q : Q (.bl false) H) : rIsi K [(.ref a), .ty "str"] H Q := ⟨_, _, _, _, false, rfl, .ty _, .base (.tup h), kit_ty (by decide +kernel), q⟩
theorem i_isi_tup_tuple {a : Addr} {xs : List V} (h : H a = some (.tup xs)) (q : Q (.bl true) H) : rIsi K [(.ref a), .ty "tuple"] H Q := ⟨_, _, _, _, true, rfl, .ty _, .base (.tup h), kit_ty (by decide +kernel), q⟩
theorem i_isi_tup_list {a : Addr} {xs : List V} (h : H a = some (.tup xs)) (q : Q (.bl false) H) : rIsi K [(.ref a), .ty "list"] H Q := ⟨_, _, _, _, false, rfl, .ty _, .base (.tup h), kit_ty (by decide +kernel), q⟩
theorem i_isi_lst_int {a : Addr} {xs : List V} (h : H a = some (.lst xs)) (q : Q (.bl false) H) : rIsi K [(.ref a), .ty "int"] H Q := ⟨_, _, _, _, false, rfl, .ty _, .base (.lst h), kit_ty (by decide +kernel), q⟩
theorem i_isi_lst_bool {a : Addr} {xs : List V} (h : H a = some (.lst xs)) (q : Q (.bl false) H) : rIsi K [(.ref a), .ty "bool"] H Q := ⟨_, _, _, _, false, rfl, .ty _, .base (.lst h), kit_ty (by decide +kernel), q⟩
theorem i_isi_lst_str {a : Addr} {xs : List V} (h : H a = some (.lst xs)) (q : Q (.bl false) H) : rIsi K [(.ref a), .ty "str"] H Q := ⟨_, _, _, _, false, rfl, .ty _, .base (.lst h), kit_ty (by decide +kernel), q⟩
theorem i_isi_lst_tuple {a : Addr} {xs : List V} (h : H a = some (.lst xs)) (q : Q (.bl false) H) : rIsi K [(.ref a), .ty "tuple"] H Q := ⟨_, _, _, _, false, rfl, .ty _, .base (.lst h), kit_ty (by decide +kernel), q⟩
theorem i_isi_lst_list {a : Addr} {xs : List V} (h : H a = some (.lst xs)) (q : Q (.bl true) H) : rIsi K [(.ref a), .ty "list"] H Q := ⟨_, _, _, _, true, rfl, .ty _, .base (.lst h), kit_ty (by decide +kernel), q⟩
/-! text.join -/
def rJoinP (K : PySem.W.Frag) : V → List V → Hp → VK → Prop := fun x xs H Q => ∃ a p, ∃ ys : List Str, x = .str a ∧ xs = [.ref p] ∧ (SqL K H p (ys.map V.str) ∨ SqT K H p (ys.map V.str)) ∧ (ys.map (·.length)).sum + ys.length * a.length ≤ 16777216 ∧ Q (.str (Txt.join a ys)) H
theorem pe_joinP {X : Cx} {to te : TE} {o e : Expr} {apos pos : Pos} (ho : PE X o to) (he : PE X e te) (hs : starEach [e] X.env = [(false, eval e X.env)] := by rfl) (hbase : attributeBase o "join" X.env (eval o X.env) = eval o X.env := by rfl) (hline : (apos.endLine == pos.line) = true := by rfl) :
    PE X (.Call (.Attribute o "join" apos) [e] [] pos) (tM1 (rJoinP X.K) to te) := pe_join ho he hs hbase hline
theorem i_m1c {r : V → List V → Hp → VK → Prop} (q : te σ H fun y H2 => r (S l) [y] H2 Q) : tM1 r (tC (S l)) te σ H Q := ⟨⟨_, rfl⟩, q⟩
end
end Fg
/-! Glue: defs of the text with their promises, calls, own exceptions with one field. -/
namespace Fg
open PySem PySem.Spec PyProof.Rows L2
/-- a def of the text: where it stands, how it is called -/
def DefIn (K : PySem.W.Frag) (mg : Str → Option Value) (x : Str) (st : Stmt) (ps : List Str) : Prop :=
  ∃ (f : Addr) (fd : FuncData), Fun K x x st f fd ∧ mg x = some (.ref f) ∧ Binds K fd ps []
/-- .. and it keeps its promise -/
def OK (P : Program) (w : World) (K : PySem.W.Frag) (mg : Str → Option Value) (base : Heap) (CX : CXT) (k : Nat) (x : Str) (ps : List Str) (sp : Sp) : Prop :=
  ∃ (f : Addr) (fd : FuncData), FnOk P w K mg base CX k f fd ps sp ∧ mg x = some (.ref f) ∧ PySem.W.keepIn K (.ref f) = true ∧ Binds K fd ps []
abbrev P1 := V → Hp → VK → XK → Prop
abbrev P2 := V → V → Hp → VK → XK → Prop
abbrev P3 := V → V → V → Hp → VK → XK → Prop
abbrev P4 := V → V → V → V → Hp → VK → XK → Prop
def sp1 (p : P1) : Sp := fun vs H Q E => ∃ x, vs = [x] ∧ p x H Q E
def sp2 (p : P2) : Sp := fun vs H Q E => ∃ x y, vs = [x, y] ∧ p x y H Q E
def sp3 (p : P3) : Sp := fun vs H Q E => ∃ x y z, vs = [x, y, z] ∧ p x y z H Q E
def sp4 (p : P4) : Sp := fun vs H Q E => ∃ x y z u, vs = [x, y, z, u] ∧ p x y z u H Q E
section
variable {H : Hp} {Q : VK} {E : XK} {x y z u : V} {p1 : P1} {p2 : P2} {p3 : P3} {p4 : P4}
theorem i_sp1 (q : p1 x H Q E) : sp1 p1 ([x] ++ []) H Q E := ⟨x, rfl, q⟩
theorem i_sp2 (q : p2 x y H Q E) : sp2 p2 ([x, y] ++ []) H Q E := ⟨x, y, rfl, q⟩
theorem i_sp3 (q : p3 x y z H Q E) : sp3 p3 ([x, y, z] ++ []) H Q E := ⟨x, y, z, rfl, q⟩
theorem i_sp4 (q : p4 x y z u H Q E) : sp4 p4 ([x, y, z, u] ++ []) H Q E := ⟨x, y, z, u, rfl, q⟩
theorem i_sp1' (q : p1 x H Q E) : sp1 p1 [x] H Q E := ⟨x, rfl, q⟩
theorem i_sp2' (q : p2 x y H Q E) : sp2 p2 [x, y] H Q E := ⟨x, y, rfl, q⟩
theorem i_sp3' (q : p3 x y z H Q E) : sp3 p3 [x, y, z] H Q E := ⟨x, y, z, rfl, q⟩
theorem i_sp4' (q : p4 x y z u H Q E) : sp4 p4 [x, y, z, u] H Q E := ⟨x, y, z, u, rfl, q⟩
end
section
variable {P : Program} {w : World} {K : PySem.W.Frag} {mg : Str → Option Value} {base : Heap} {x : Str} {st : Stmt} {N ps : List Str} {k : Nat} {sp : Sp}
theorem FnOK.mk {f : Addr} {fd : FuncData} (F : Fun K x x st f fd) (S : FnScope N ps (defScope st)) (len : ∀ vs H Q E, sp vs H Q E → vs.length = ps.length)
    (body : ∀ (cdv : Value) (A : Around) (outer : List Env) (s : Shared) (H : Hp) (vs : List V) (Q : VK) (E : XK), Room k (A.deeper (envOfC x (defScope st) s.heap.objs.size f cdv)) → sp vs H Q E →
      ∃ t, PSs (cxOf CX0 P w K mg base N x (defScope st) f cdv A outer s H E).nox (defBody st) t ∧ t { nx := fun _ H' => Q .non H', rt := Q } (start N vs) H) : FnOk P w K mg base CX0 (k + 1) f fd ps sp :=
  F.ok S len fun cdv A outer s H vs Q E hr h => body cdv A outer s H vs Q E hr h
theorem OK.mk (D : DefIn K mg x st ps) (S : FnScope N ps (defScope st)) (len : ∀ vs H Q E, sp vs H Q E → vs.length = ps.length)
    (body : ∀ (f : Addr) (cdv : Value) (A : Around) (outer : List Env) (s : Shared) (H : Hp) (vs : List V) (Q : VK) (E : XK), Room k (A.deeper (envOfC x (defScope st) s.heap.objs.size f cdv)) → sp vs H Q E →
      ∃ t, PSs (cxOf CX0 P w K mg base N x (defScope st) f cdv A outer s H E).nox (defBody st) t ∧ t { nx := fun _ H' => Q .non H', rt := Q } (start N vs) H) : OK P w K mg base CX0 (k + 1) x ps sp := by
  obtain ⟨f, fd, F, hm, hb⟩ := D
  exact ⟨f, fd, F.ok S len fun cdv A outer s H vs Q E hr h => body f cdv A outer s H vs Q E hr h, hm, F.kp, hb⟩
theorem OK.mkX (D : DefIn K mg x st ps) (S : FnScope N ps (defScope st)) (len : ∀ vs H Q E, sp vs H Q E → vs.length = ps.length)
    (body : ∀ (f : Addr) (cdv : Value) (A : Around) (outer : List Env) (s : Shared) (H : Hp) (vs : List V) (Q : VK) (E : XK), Room k (A.deeper (envOfC x (defScope st) s.heap.objs.size f cdv)) → sp vs H Q E →
      ∃ t, PSs (cxOf (L2.CX P w) P w K mg base N x (defScope st) f cdv A outer s H E) (defBody st) t ∧ t { nx := fun _ H' => Q .non H', rt := Q } (start N vs) H) : OK P w K mg base (L2.CX P w) (k + 1) x ps sp := by
  obtain ⟨f, fd, F, hm, hb⟩ := D
  exact ⟨f, fd, F.okX S len fun cdv A outer s H vs Q E hr h => body f cdv A outer s H vs Q E hr h, hm, F.kp, hb⟩
theorem len1 {p : P1} {a : Str} : ∀ vs H Q E, sp1 p vs H Q E → vs.length = [a].length := by
  rintro vs H Q E ⟨_, rfl, _⟩; rfl
theorem len2 {p : P2} {a b : Str} : ∀ vs H Q E, sp2 p vs H Q E → vs.length = [a, b].length := by
  rintro vs H Q E ⟨_, _, rfl, _⟩; rfl
theorem len3 {p : P3} {a b c : Str} : ∀ vs H Q E, sp3 p vs H Q E → vs.length = [a, b, c].length := by
  rintro vs H Q E ⟨_, _, _, rfl, _⟩; rfl
theorem len4 {p : P4} {a b c d : Str} : ∀ vs H Q E, sp4 p vs H Q E → vs.length = [a, b, c, d].length := by
  rintro vs H Q E ⟨_, _, _, _, rfl, _⟩; rfl
theorem OK.weak {CX : CXT} {sp' : Sp} (G : OK P w K mg base CX k x ps sp) (h : ∀ vs H Q E, sp' vs H Q E → sp vs H Q E) : OK P w K mg base CX k x ps sp' := by
  obtain ⟨f, fd, F, r⟩ := G
  exact ⟨f, fd, F.imp h, r⟩
end
/-! ### calls -/
section
variable {X : Cx} {CX : CXT} {k : Nat} {x : Str} {ps : List Str} {sp : Sp} {E : XK} {e : Expr} {es : List Expr} {ta : TA} {p pos : Pos}
theorem pe_f (G : OK X.prog X.w X.K X.mg X.base CX k x ps sp) (hr : Room k X.A) (hx : Passes CX X E) (ha : PA X (e :: es) ta) (hg : Gl X x := by rfl) (hd : (x == ("__debug__" : Str)) = false := by decide)
    (he : starEach (e :: es) X.env = (false, eval e X.env) :: starEach es X.env := by rfl) (hpl : (backTo pos (starEach es X.env)).any (·.1) = false := by rfl) :
    PE X (.Call (.Name x p) (e :: es) [] pos) (tCall sp [] E ta) := by
  obtain ⟨f, fd, F, hm, hk, hb⟩ := G
  exact pe_call F hr hg hm hk hb .nil hx ha hd he hpl
theorem pe_fS {ES : L2.St → XK} (G : OK X.prog X.w X.K X.mg X.base CX k x ps sp) (hr : Room k X.A) (hx : ∀ σ, PassesAt CX X σ (ES σ)) (ha : PA X (e :: es) ta) (hg : Gl X x := by rfl) (hd : (x == ("__debug__" : Str)) = false := by decide)
    (he : starEach (e :: es) X.env = (false, eval e X.env) :: starEach es X.env := by rfl) (hpl : (backTo pos (starEach es X.env)).any (·.1) = false := by rfl) :
    PE X (.Call (.Name x p) (e :: es) [] pos) (tCallS sp ES ta) := by
  obtain ⟨f, fd, F, hm, hk, hb⟩ := G
  exact pe_callS F hr hg hm hk hb hx ha hd he hpl
theorem pe_gS (l : List Nat) (h : ∃ t, X.mg x = some (.str ⟨l.toArray⟩ t)) (hg : Gl X x := by rfl) (hd : (x == ("__debug__" : Str)) = false := by decide) : PE X (.Name x pos) (tC (S l)) := by
  obtain ⟨t, hm⟩ := h
  exact pe_glob hg hm ⟨t, rfl⟩ hd
theorem pe_gI (i : Int) (h : ∃ t, X.mg x = some (.int i t)) (hg : Gl X x := by rfl) (hd : (x == ("__debug__" : Str)) = false := by decide) : PE X (.Name x pos) (tC (.int i)) := by
  obtain ⟨t, hm⟩ := h
  exact pe_glob hg hm ⟨t, rfl⟩ hd
theorem pe_gR (C : Addr) (h : X.mg x = some (.ref C)) (hg : Gl X x := by rfl) (hd : (x == ("__debug__" : Str)) = false := by decide) : PE X (.Name x pos) (tC (.ref C)) := pe_glob hg h rfl hd
end
/-! ### an own exception with one field -/
/-- what its __init__ promises -/
def spIni (C : Addr) (f : Str) : Sp := sp2 fun x v H Q _ => ∃ a, x = .ref a ∧ H a = some (exo a C none) ∧ ∀ dx, H dx = none → dx ≠ a → Q .non (upd (upd H dx (exd dx [(f, v)])) a (exo a C (some dx)))
def OKx (P : Program) (w : World) (K : PySem.W.Frag) (mg : Str → Option Value) (base : Heap) (x f : Str) (C : Addr) : Prop :=
  mg x = some (.ref C) ∧ OexC K C ∧ PySem.W.findIn K (.ref C) f = some none ∧ ∃ (fI : Addr) (fd : FuncData), PySem.W.findIn K (.ref C) "__init__" = some (some (.ref fI)) ∧ PySem.W.typeIn K (.ref fI) = some (.type "function") ∧
    FnOk P w K mg base CX0 1 fI fd ["self", f] (spIni C f) ∧ Binds K fd ["self", f] []
theorem ini_ok {P : Program} {w : World} {K : PySem.W.Frag} {mg : Str → Option Value} {base : Heap} {C fI : Addr} {f q : Str} {st : Stmt} {fd : FuncData} (F : Fun K "__init__" q st fI fd) (S : FnScope ["self", f] ["self", f] (defScope st))
    (ox : OexC K C) (noF : PySem.W.findIn K (.ref C) f = some none)
    (hb : ∀ (cdv : Value) (A : Around) (outer : List Env) (s : Shared) (H : Hp) (E : XK), PSs (cxOf CX0 P w K mg base ["self", f] q (defScope st) fI cdv A outer s H E).nox (defBody st) (tOst K f (tVar 0) (tVar 1))) :
    FnOk P w K mg base CX0 1 fI fd ["self", f] (spIni C f) := by
  refine F.ok S (fun vs H Q E h => len2 vs H Q E h) fun cdv A outer s H vs Q E hr h => ⟨_, hb cdv A outer s H E, ?_⟩
  obtain ⟨x, v, rfl, a, rfl, ha, q⟩ := h
  exact ⟨v, rfl, .ref a, rfl, a, C, rfl, ox, noF, .inl ⟨ha, fun dx n ne => q dx n ne⟩⟩
/-- C(e): an error whose dict, new, holds the field -/
def tMkE (C : Addr) (f : Str) (ta : TA) : L2.St → Hp → XK → Prop := fun σ H Q => ta σ H fun vs H1 => ∃ v, vs = [v] ∧ ∀ d, H1 d = none → Q (.ref C) (some d) (upd H1 d (.xd [(f, v)]))
theorem pa_mono {X : Cx} {es : List Expr} {ta : TA} (ha : PA X es ta) : PA X es fun σ H R => ∃ Q1 : List V → Hp → Prop, ta σ H Q1 ∧ ∀ vs H1, Q1 vs H1 → R vs H1 := by
  refine ⟨fun pos pins s σ H Q I h => ?_⟩
  obtain ⟨Q1, h, hi⟩ := h
  exact thn (ha.run pos pins s σ H Q1 I h) fun us s1 ⟨vs, H1, J, r, q⟩ => ⟨vs, H1, J, r, hi vs H1 q⟩
theorem pmk_E {X : Cx} {x f : Str} {C : Addr} {e : Expr} {ta : TA} {p pos : Pos} {k : Nat} (G : OKx X.prog X.w X.K X.mg X.base x f C) (hr : Room (k + 2) X.A) (ha : PA X [e] ta) (hg : Gl X x := by rfl) (hdb : (x == ("__debug__" : Str)) = false := by decide)
    (he : starEach [e] X.env = (false, eval e X.env) :: starEach [] X.env := by rfl) (hpl : (backTo pos (starEach [] X.env)).any (·.1) = false := by rfl) :
    PMk X (.Call (.Name x p) [e] [] pos) (tMkE C f ta) := by
  obtain ⟨hm, ox, noF, fI, fd, iC, tI, F, hb⟩ := G
  intro pins s σ H Q I h
  refine pmk_oex (k := 1) (dvs := []) ox iC tI F (hr.mono (by omega)) hb .nil pass0 hg hm (pa_mono ha) hdb he hpl pins s σ H Q I ⟨_, h, fun vs H1 hq => ?_⟩
  obtain ⟨v, rfl, q⟩ := hq
  refine ⟨by show 1 ≤ 1000; omega, fun a na => ⟨.ref a, v, rfl, a, rfl, upd_same, fun dx nd ne => ⟨rfl, dx, [(f, v)], upd_same, ?_, ?_, ?_⟩⟩⟩
  · rw [upd_ne ne, upd_same]
  · rw [upd_ne ne] at nd; exact nd
  · have n2 : H1 dx = none := by rw [upd_ne ne] at nd; exact nd
    have e1 : upd (del (upd (upd (upd H1 a (exo a C none)) dx (exd dx [(f, v)])) a (exo a C (some dx))) a) dx (.xd [(f, v)]) = upd H1 dx (.xd [(f, v)]) := by
      funext b
      by_cases hb : b = dx
      · rw [hb, upd_same, upd_same]
      · rw [upd_ne hb, upd_ne hb]
        by_cases ha : b = a
        · rw [ha, del_same, na]
        · rw [del_ne ha, upd_ne ha, upd_ne hb, upd_ne ha]
    rw [e1]
    exact q dx n2
def tRaiseP (t : L2.St → Hp → XK → Prop) (W : WX) : TS := fun _ σ H => t σ H fun cls d H' => W cls d σ H'
theorem ps_raiseP {X : Cx} {W : WX} {e : Expr} {t : L2.St → Hp → XK → Prop} {pos : Pos} (hc : X.calm = true) (tk : Takes X W) (he : PMk X e t) : PS X (.Raise (some e) none pos) (tRaiseP t W) := ps_raise hc tk he
/-! ### isinstance(e, C) of a caught error, e.f -/
/-- the class of a caught error, for isinstance -/
structure ExcD (K : PySem.W.Frag) (D : Addr) : Prop where
  cl : (PySem.W.clsIn K D).isSome = true
  hg : PySem.W.findIn K (.ref D) "__getattribute__" = some (some (.builtin "BaseException.__getattribute__"))
  hk : PySem.W.findIn K (.ref D) "__getattr__" = some none
  hs : PySem.W.subIn K (.ref D) (.type "BaseException") = some true
  hd : PySem.W.hasDictIn K D = true
  ha : PySem.W.findIn K (.ref D) "__class__" = some (some (.builtin "object.__class__"))
  hn : PySem.W.specialIn K (.builtin "object.__class__") "__get__" = some (some (.builtin "getset_descriptor.__get__"))
  ht : PySem.W.takesIn K (.builtin "object.__class__") = some true
  hm : PySem.W.mroIn K D (.type "object") = some true
theorem ExcD.xf {K : PySem.W.Frag} {D : Addr} (T : ExcD K D) : XfC K D := ⟨T.hg, T.hk, T.hs, T.hd⟩
def rIsX (K : PySem.W.Frag) (a : Addr) (cls : Value) (d : Option Addr) : RC := fun xs H Q => ∃ (D dd : Addr) (fs : List (Str × V)) (c : V) (cv : Value) (b : Bool),
  xs = [.ref a, c] ∧ cls = .ref D ∧ d = some dd ∧ H dd = some (.xd fs) ∧ ExcD K D ∧ ClsV c cv ∧ PySem.W.kitOne K (.ref D) cv = some b ∧ Q (.bl b) H
theorem call_isX {X : Cx} {a : Addr} {oe : Obj} {cls : Value} {d : Option Addr} {pn : List (Addr × Obj)} (hz : Zc cls d oe) (hf : ∃ vs, oe.data = .fields vs) : CallR (X.suite a ((a, oe) :: pn)) (.builtin "isinstance") (rIsX X.K a cls d) := by
  intro pins s σ H xs us Q I r h
  obtain ⟨D, dd, fs, c, cv, b, rfl, rfl, rfl, hdd, T, kc, e, q⟩ := h
  obtain ⟨u1, u2, rfl, r1, r2⟩ := vals2 r
  obtain rfl : u1 = Value.ref a := r1
  obtain rfl := kc.eq r2
  obtain ⟨hget, _⟩ := I.pin (a, oe) (List.mem_append_left _ List.mem_cons_self)
  obtain ⟨vs, hv⟩ := hf
  have hx : ObjOk X.prog X.w H s.heap dd (.xd fs) := I.hok dd _ hdd
  obtain ⟨mA, ⟨o, es, ep, ho, _⟩, _⟩ := hx
  have J : PySem.W.InstAt s.heap a oe D (some o) := ⟨hget, hz.1, by unfold PySem.W.notCls; rw [hv] <;> rfl, by rw [hz.2]; exact ho⟩
  exact PySem.W.kia_one (PySem.W.kitx_exc T.cl T.hg T.hk T.hs T.ha T.hn T.ht T.hm) I.kIn J e (fun z => nomatch z) fun tk => ⟨.bl b, H, I.tok tk, rfl, q⟩
section
variable {σ : L2.St} {H : Hp} {D : Ends} {t : L2.St → Hp → XK → Prop} {W : WX} {Q : XK} {C : Addr} {f : Str} {ta : TA} {v : V} {P : V → Prop}
theorem i_raise (q : t σ H fun cls d H' => W cls d σ H') : tRaiseP t W D σ H := q
theorem i_mkE (q : ta σ H fun vs H1 => ∃ v, vs = [v] ∧ ∀ d, H1 d = none → Q (.ref C) (some d) (upd H1 d (.xd [(f, v)]))) : tMkE C f ta σ H Q := q
theorem i_ex1 (q : P v) : ∃ u, [v] = [u] ∧ P u := ⟨v, rfl, q⟩
end
/-- the wish for an error of the class at C whose dict, new, holds f = v -/
def Rz (E : XK) (H : Hp) (C : Addr) (f : Str) (v : V) : Prop := ∀ d H', H d = none → Same H H' → H' d = some (.xd [(f, v)]) → E (.ref C) (some d) H'
theorem Rz.mono {E : XK} {H H1 : Hp} {C : Addr} {f : Str} {v : V} (h : Rz E H C f v) (s : Same H H1) : Rz E H1 C f v := fun d H' n s' e => h d H' (s.free n) (s.trans s') e
theorem Rz.at {E : XK} {H : Hp} {C : Addr} {f : Str} {v : V} (h : Rz E H C f v) {d : Addr} (n : H d = none) : E (.ref C) (some d) (upd H d (.xd [(f, v)])) :=
  h d _ n (fun b o e => by rw [upd_ne (ne_of_none e n)]; exact e) upd_same
/-! ### min of some texts -/
def rMinS (K : PySem.W.Frag) : RC := fun vs H Q => ∃ (a : Addr) (xs : List (List Nat)), vs = [V.ref a] ∧ SqL K H a (xs.map S) ∧ xs ≠ [] ∧ ∀ m, m ∈ xs → (∀ y ∈ xs, ¬ y < m) → Q (S m) H
theorem argBest_min (val : Nat → List Nat) : ∀ k, argBest (fun i j => decide (val i < val j)) k ≤ k ∧ ∀ j, j ≤ k → ¬ val j < val (argBest (fun i j => decide (val i < val j)) k)
  | 0 => ⟨Nat.le_refl _, fun j hj => by
    have : j = 0 := by omega
    subst this
    exact List.lt_irrefl _⟩
  | k + 1 => by
    obtain ⟨h1, h2⟩ := argBest_min val k
    unfold argBest
    by_cases h : val (k + 1) < val (argBest (fun i j => decide (val i < val j)) k)
    · rw [if_pos (decide_eq_true h)]
      refine ⟨Nat.le_refl _, fun j hj => ?_⟩
      by_cases e : j = k + 1
      · subst e; exact List.lt_irrefl _
      · exact fun z => h2 j (by omega) (List.lt_trans z h)
    · rw [if_neg (by simpa using h)]
      refine ⟨by omega, fun j hj => ?_⟩
      by_cases e : j = k + 1
      · subst e; exact h
      · exact h2 j (by omega)
theorem cmp_strs {prog : Program} {w : World} {A : Around} {P : Nat → Value → Prop} (val : Nat → List Nat) (hval : ∀ i v, P i v → ∃ t, v = .str ⟨(val i).toArray⟩ t) : CmpOf prog w A .Lt P (fun i j => decide (val i < val j)) := fun i j vi vj s Q E hi hj h => by
  obtain ⟨t, rfl⟩ := hval i vi hi
  obtain ⟨u, rfl⟩ := hval j vj hj
  refine richCompare_gives (op := .Lt) (typeIs_str s _ t) (typeIs_str s _ u) F.slot_str_lt F.entry_str_lt (F.args_str_lt_2 _ _) (gives_str_lt _ _ t u) (fun x => nomatch x) ?_
  show Q (Value.bool (decide ((val i).toArray.toList < (val j).toArray.toList))) s
  simpa using h
theorem cr_minS {X : Cx} (hc : X.calm = true) : CallR X (.builtin "min") (rMinS X.K) := by
  intro pins s σ H vs us Q I r h
  obtain ⟨a, xs, rfl, hs, hne, q⟩ := h
  obtain ⟨its, rv, hl, _⟩ := I.list hs
  rw [Vals.ref1 r]
  have hlen : xs.length = its.length := by have := rv.length; rw [List.length_map] at this; exact this
  have hpos : 0 < its.length := by rw [← hlen]; exact List.length_pos_iff.mpr hne
  have hL := hl.isList
  have ha : a < s.heap.objs.size := by obtain ⟨_, e, _⟩ := id hL; exact Heap.lt_size e
  have hval : ∀ (i : Nat) (v : Value), its.toArray[i]? = some v → ∃ t, v = Value.str ⟨(xs.getD i []).toArray⟩ t := fun i v hv => by
    have hv' : its[i]? = some v := by simpa using hv
    have hi : i < xs.length := by rw [hlen]; exact (List.getElem?_eq_some_iff.mp hv').1
    obtain ⟨u, hu, ru⟩ := rv.get (i := i) (x := S (xs.getD i [])) (by rw [List.getElem?_map, List.getElem?_eq_getElem hi, List.getD_eq_getElem?_getD, List.getElem?_eq_getElem hi]; rfl)
    rw [hv'] at hu
    cases hu
    exact ru
  refine call_min_walk (wpAny_pyIter_list hL ?_)
  refine ⟨_, _, _, _, _, _, _, rfl, Walks.list (A := X.A.in1) (I.ok.hd hc) s.heap.objs.size a (Nat.ne_of_lt ha) its.toArray,
    ⟨⟨_, Heap.get?_push_size _ rfl, rfl, rfl⟩, hL.push _⟩, fun b hb => ?_, by simpa using hpos, cmp_strs (fun i => xs.getD i []) hval, fun v h' tk hP hk => ?_⟩
  · show b < (s.heap.push _).objs.size
    rw [Heap.size_push]
    rcases List.mem_cons.mp hb with e | hb
    · rw [e]; exact Nat.lt_succ_self _
    · rw [List.mem_singleton.mp hb]; exact Nat.lt_succ_of_lt ha
  · obtain ⟨t, rfl⟩ := hval _ v hP
    obtain ⟨b1, b2⟩ := argBest_min (fun i => xs.getD i []) (its.toArray.size - 1)
    have sz : its.toArray.size = xs.length := by simp [hlen]
    have hb : argBest (fun i j => decide (xs.getD i [] < xs.getD j [])) (its.toArray.size - 1) < xs.length := by omega
    refine ⟨S (xs.getD _ []), H, I.kept (t' := tk) fun b u e => hk b u (fun hm => ?_) (Heap.get?_push_of_some _ e), ⟨t, rfl⟩, q _ ?_ fun y hy => ?_⟩
    · have e1 : b = s.heap.objs.size := List.mem_singleton.mp hm
      have e2 := Heap.lt_size e
      rw [e1] at e2
      exact absurd e2 (Nat.lt_irrefl _)
    · rw [List.getD_eq_getElem?_getD, List.getElem?_eq_getElem hb]
      exact List.getElem_mem hb
    · obtain ⟨i, hi, e⟩ := List.mem_iff_getElem.mp hy
      have e2 : xs.getD i [] = y := by rw [List.getD_eq_getElem?_getD, List.getElem?_eq_getElem hi, ← e]; rfl
      rw [← e2]
      exact b2 i (by omega)
theorem i_minS {K : PySem.W.Frag} {H : Hp} {Q : VK} {a : Addr} {xs : List (List Nat)} (hs : SqL K H a (xs.map S)) (hne : xs ≠ []) (q : ∀ m, m ∈ xs → (∀ y ∈ xs, ¬ y < m) → Q (S m) H) : rMinS K [.ref a] H Q := ⟨a, xs, rfl, hs, hne, q⟩
/-! ### the rules, the written part named -/
section
variable {X : Cx} (K : PySem.W.Frag) {e o : Expr} {es : List Expr} {te to : TE} {ta : TA} {tg : Expr} {p pos apos cpos tpos : Pos} {elts : List Expr} {kk : Nat}
theorem opAdd (h : X.K = K := by rfl) : OpR X (binaryOp .Add) (addP K) := h ▸ op_addP
theorem opEq (hu : X.A.units + 64 < cLine) (h : X.K = K := by rfl) : OpR X (compareOp .Eq) (eqP K) := h ▸ op_eqP hu
theorem opNe (hu : X.A.units + 64 < cLine) (h : X.K = K := by rfl) : OpR X (compareOp .NotEq) (neP K) := h ▸ op_neP hu
theorem opIn (h : X.K = K := by rfl) : OpR X (compareOp .In) (inP K) := h ▸ op_inP
theorem opNotIn (h : X.K = K := by rfl) : OpR X (compareOp .NotIn) (notInP K) := h ▸ op_notInP
theorem ixK (h : X.K = K := by rfl) : IxR X (ixP K) := h ▸ ix_P
theorem slK (h : X.K = K := by rfl) : SlR X (slP K) := h ▸ sl_P
theorem piAny (he : PE X e te) (h : X.K = K := by rfl) : PI X tg e (iAny K te) := h ▸ pi_any he
theorem piEnum (hg : Gl X "enumerate") (hm : X.mg "enumerate" = none) (ha : PA X [e] ta) (h : X.K = K := by rfl) (hs : starEach [e] X.env = [(false, eval e X.env)] := by rfl) :
    PI X (.Tuple elts kk tpos) (.Call (.Name "enumerate" p) [e] [] pos) (iEnumP K ta) := h ▸ pi_enumP hg hm ha hs
theorem cLen (h : X.K = K := by rfl) : CallR X (.builtin "len") (rLenP K) := h ▸ call_lenP
theorem cSum (hc : X.calm = true) (h : X.K = K := by rfl) : CallR X (.builtin "sum") (rSum K) := h ▸ cr_sum hc
theorem cAll (hc : X.calm = true) (h : X.K = K := by rfl) : CallR X (.builtin "all") (rAll K) := h ▸ cr_all hc
theorem cTup (h : X.K = K := by rfl) : CallR X (.type "tuple") (rTupP K) := h ▸ call_tupP
theorem cIsi (h : X.K = K := by rfl) : CallR X (.builtin "isinstance") (rIsi K) := h ▸ call_isi
theorem cMinS (hc : X.calm = true) (h : X.K = K := by rfl) : CallR X (.builtin "min") (rMinS K) := h ▸ cr_minS hc
theorem cSortedS (h : X.K = K := by rfl) : CallR X (.builtin "sorted") (rSortedS K) := h ▸ cr_sortedS
theorem peJoin (ho : PE X o to) (he : PE X e te) (h : X.K = K := by rfl) (hs : starEach [e] X.env = [(false, eval e X.env)] := by rfl) (hbase : attributeBase o "join" X.env (eval o X.env) = eval o X.env := by rfl) (hline : (apos.endLine == pos.line) = true := by rfl) :
    PE X (.Call (.Attribute o "join" apos) [e] [] pos) (tM1 (rJoinP K) to te) := h ▸ pe_joinP ho he hs hbase hline
theorem pgTup {t : TGs} {n : Nat} (hc : X.calm = true) (ht : PGs X es t) (h : X.K = K := by rfl) (hn : (assignEach es X.env).length = n := by rfl) (hst : (assignEach es X.env).findIdx? (·.1) = none := by rfl) :
    PG X (.Tuple es kk pos) (gTup K n t) := h ▸ pg_tup hc ht hn hst
/-- xs.append(e) -/
def tApp (K : PySem.W.Frag) (to : TE) (t : TA) : TE := tBM K "list" rAppend to t
theorem peApp (ho : PE X o to) (ha : PA X (e :: es) ta) (h : X.K = K := by rfl) (hbase : attributeBase o "append" X.env (eval o X.env) = eval o X.env := by rfl)
    (hfew : ((backTo cpos (starEach (e :: es) X.env)).all (fun x => !x.1) && (backToKw cpos (keywordEach [] X.env)).all (fun x => x.1.isSome)
      && decide ((e :: es).length + ([] : List Keyword).length + (if ([] : List Keyword).isEmpty then 0 else 1) < 30)) = true := by rfl)
    (hline : (apos.endLine == cpos.line) = true := by rfl) (hs : starEach (e :: es) X.env = (false, eval e X.env) :: starEach es X.env := by rfl) (hplain : (backTo cpos (starEach es X.env)).any (·.1) = false := by rfl) :
    PE X (.Call (.Attribute o "append" apos) (e :: es) [] cpos) (tApp K to ta) := h ▸ pe_bm PySem.F.plainAttrs_list PySem.F.slot_list_append PySem.F.type_list_append mt_append ho ha hbase hfew hline hs hplain
end
section
variable {K : PySem.W.Frag} {σ : L2.St} {H : Hp} {Q : VK} {te : TE} {ta : TA} {l : Addr} {xs : List V} {v : V}
theorem i_app (q : te σ H fun x H1 => tyV K "list" x H1 ∧ ta σ H1 fun xs H2 => rAppend x xs H2 Q) : tApp K te ta σ H Q := q
theorem i_appAt (h : H l = some (.lst xs)) {P : Prop} (q : P) : tyV K "list" (.ref l) H ∧ P := ⟨.inl ⟨rfl, _, .inl (.inl h)⟩, q⟩
theorem i_appEnd (h : H l = some (.lst xs)) (hz : xs.length < 100000) (q : Q .non (upd H l (.lst (xs ++ [v])))) : rAppend (.ref l) [v] H Q := ⟨l, xs, v, rfl, rfl, h, Nat.lt_trans hz (by decide), q⟩
end
/-! ### stores into lists; a word between two statements -/
section
variable {σ : L2.St} {H : Hp} {D : Ends} {t u : TS} {to ti : TE} {v : V} {Qs : L2.St → Hp → Prop} {Qh : Hp → Prop} {p : Addr} {xs ys : List V} {z : Int}
theorem i_gsub {ts : TSet} (q : to σ H fun o H1 => ti σ H1 fun i H2 => ts o i v H2 fun H3 => Qs σ H3) : gSub to ti ts v σ H Qs := q
theorem i_setL (j : Nat) (h : H p = some (.lst xs)) (hj : ixN xs.length z = some j) (e : xs.set j v = ys) (q : Qh (upd H p (.lst ys))) : rSetL (.ref p) (.int z) v H Qh := ⟨p, xs, z, j, rfl, rfl, h, hj, by rw [e]; exact q⟩
theorem i_cut (Mid : L2.St → Hp → Prop) (h1 : t { D with nx := Mid } σ H) (h2 : ∀ σ' H', Mid σ' H' → u D σ' H') : Evl.tCut t u D σ H := ⟨Mid, h1, h2⟩
end
/-! ### "".join -/
theorem joinL_nil : ∀ ls : List (List Nat), TL.joinL [] ls = ls.flatten
  | [] => rfl
  | [p] => by simp [TL.joinL]
  | p :: q :: r => by
    show p ++ ([] ++ TL.joinL [] (q :: r)) = _
    rw [joinL_nil (q :: r)]
    rfl
theorem join_nil (ls : List (List Nat)) : Txt.join ⟨([] : List Nat).toArray⟩ (ls.map fun l => (⟨l.toArray⟩ : Str)) = ⟨ls.flatten.toArray⟩ := by
  refine TL.ext_tl ?_
  rw [TL.join_eq, TL.tl_join, List.map_map]
  show TL.joinL ([] : List Nat).toArray.toList (ls.map fun l => l.toArray.toList) = ls.flatten.toArray.toList
  simp [joinL_nil]
theorem i_join0 {K : PySem.W.Frag} {H : Hp} {Q : VK} {p : Addr} {ls : List (List Nat)} (hs : SqL K H p (ls.map S)) (hz : (ls.map List.length).sum ≤ 100000) (q : Q (S ls.flatten) H) : rJoinP K (S []) [.ref p] H Q := by
  refine ⟨⟨([] : List Nat).toArray⟩, p, ls.map fun l => (⟨l.toArray⟩ : Str), rfl, rfl, .inl ?_, ?_, ?_⟩
  · rw [List.map_map]; exact hs
  · rw [List.map_map]
    have e : (ls.map ((·.length) ∘ fun l => (⟨l.toArray⟩ : Str))) = ls.map List.length := List.map_congr_left fun l _ => str_len l
    rw [e]
    show (ls.map List.length).sum + _ * ([] : List Nat).toArray.size ≤ _
    simp
    omega
  · rw [join_nil]; exact q
theorem flat_one (cs : List Nat) : (cs.map fun c => [c]).flatten = cs := by
  induction cs with
  | nil => rfl
  | cons a r ih => rw [List.map_cons, List.flatten_cons, ih]; rfl
theorem len_one (cs : List Nat) : ((cs.map fun c => [c]).map List.length).sum = cs.length := by
  induction cs with
  | nil => rfl
  | cons a r ih => rw [List.map_cons, List.map_cons, List.sum_cons, ih, List.length_cons, List.length_cons, List.length_nil]; omega
/-- .. of signs -/
theorem i_join1 {K : PySem.W.Frag} {H : Hp} {Q : VK} {p : Addr} {cs : List Nat} (hs : SqL K H p (cs.map fun c => S [c])) (hz : cs.length ≤ 100000) (q : Q (S cs) H) : rJoinP K (S []) [.ref p] H Q := by
  refine i_join0 (ls := cs.map fun c => [c]) (by rw [List.map_map]; exact hs) (by rw [len_one]; exact hz) ?_
  rw [flat_one]
  exact q
theorem i_yes {σ : L2.St} {H : Hp} {QB : Bool → Hp → Prop} (q : QB true H) : tYes σ H QB := q
/-! ### sorted(some texts): its first -/
theorem ltCps_dec : ∀ a b : List Nat, Spec.ltCps a b = decide (a < b)
  | [], [] => by rw [decide_eq_false (List.lt_irrefl _)]; rfl
  | [], b :: t => by rw [decide_eq_true (List.nil_lt_cons b t)]; rfl
  | a :: r, [] => by rw [decide_eq_false (List.not_lt_nil _)]; rfl
  | a :: r, b :: t => by
    show (decide (a < b) || (a == b && Spec.ltCps r t)) = _
    rw [ltCps_dec r t, Bool.eq_iff_iff]
    simp [List.cons_lt_cons_iff]
theorem rising_all : ∀ (r : List Str) (p : Str), PyProof.Rows.risingS p r = true → ∀ y ∈ r, ¬ y.cps.toList < p.cps.toList
  | [], p, _, y, hy => by simp at hy
  | x :: r, p, h, y, hy => by
    have h' : (!Spec.ltCps x.cps.toList p.cps.toList && PyProof.Rows.risingS x r) = true := h
    rw [Bool.and_eq_true, ltCps_dec] at h'
    have h1 : ¬ x.cps.toList < p.cps.toList := by simpa using h'.1
    rcases List.mem_cons.mp hy with rfl | hy
    · exact h1
    · have h2 := rising_all r x h'.2 y hy
      rw [List.not_lt] at h1 h2 ⊢
      exact List.le_trans h1 h2
theorem i_sortedS {K : PySem.W.Frag} {H : Hp} {Q : VK} {a : Addr} {ls : List (List Nat)} (hs : SqL K H a (ls.map S)) (h64 : ls.length < 64)
    (q : ∀ (zs : List (List Nat)) (p : Addr), zs.Perm ls → (∀ m, zs[0]? = some m → m ∈ ls ∧ ∀ y ∈ ls, ¬ y < m) → H p = none → Q (.ref p) (upd H p (.lst (zs.map S)))) : rSortedS K [.ref a] H Q := by
  refine ⟨a, ls.map fun l => (⟨l.toArray⟩ : Str), rfl, by rw [List.map_map]; exact hs, by rw [List.length_map]; exact h64, fun ys p pm srt np => ?_⟩
  have e : ys = (ys.map fun z => z.cps.toList).map fun l => (⟨l.toArray⟩ : Str) := by
    rw [List.map_map]
    have : ys.map ((fun l => (⟨l.toArray⟩ : Str)) ∘ fun z => z.cps.toList) = ys.map id := List.map_congr_left fun z _ => rfl
    rw [this, List.map_id]
  have pm2 : (ys.map fun z => z.cps.toList).Perm ls := by
    have := pm.map fun z : Str => z.cps.toList
    rw [List.map_map] at this
    have e2 : ls.map ((fun z : Str => z.cps.toList) ∘ fun l => (⟨l.toArray⟩ : Str)) = ls.map id := List.map_congr_left fun l _ => rfl
    rw [e2, List.map_id] at this
    exact this
  have := q (ys.map fun z => z.cps.toList) p pm2 (fun m hm => ?_) np
  · rw [List.map_map] at this
    have e3 : ys.map (S ∘ fun z => z.cps.toList) = ys.map V.str := List.map_congr_left fun z _ => rfl
    rw [e3] at this
    exact this
  · have hmem : m ∈ ys.map fun z => z.cps.toList := List.mem_of_getElem? hm
    refine ⟨pm2.mem_iff.mp hmem, fun y hy => ?_⟩
    have hy2 := pm2.mem_iff.mpr hy
    obtain ⟨z, hz, rfl⟩ := List.mem_map.mp hy2
    cases ys with
    | nil => simp at hz
    | cons x r =>
      have hm' : x.cps.toList = m := by simpa using hm
      rw [← hm']
      have srt' : PyProof.Rows.risingS x r = true := srt
      rcases List.mem_cons.mp hz with rfl | hz
      · exact List.lt_irrefl _
      · exact rising_all r x srt' z hz
/-! ### isinstance(e, C), e.f in a suite; data compared -/
section
variable {K : PySem.W.Frag} {σ : L2.St} {H : Hp} {Q : VK} {a dd D C : Addr} {fs : List (Str × V)} {c x y v : V} {cv : Value} {b r : Bool} {i : Nat} {f : Str} {d1 d2 : PyData}
theorem i_isX (hdd : H dd = some (.xd fs)) (T : ExcD K D) (kc : ClsV c cv) (e : PySem.W.kitOne K (.ref D) cv = some b) (q : Q (.bl b) H) : rIsX K a (.ref D) (some dd) [.ref a, c] H Q := ⟨D, dd, fs, c, cv, b, rfl, rfl, rfl, hdd, T, kc, e, q⟩
theorem i_xf (h : σ[i]? = some (some (.ref a))) (hdd : H dd = some (.xd [(f, v)])) (q : Q v H) : tXf a (.ref C) (some dd) C f (tVar i) σ H Q := ⟨.ref a, h, rfl, rfl, dd, _, v, rfl, hdd, by simp [List.lookup], q⟩
theorem i_eq_data (h1 : Dp K H x d1) (h2 : Dp K H y d2) (s1 : SeqAt.shaped d1 = true) (s2 : SeqAt.shaped d2 = true) (e : PyData.eqv d1 d2 = r) (q : Q (.bl r) H) : eqP K x y H Q := .inr ⟨d1, d2, h1, h2, s1, s2, by rw [e]; exact q⟩
theorem i_ne_data (h1 : Dp K H x d1) (h2 : Dp K H y d2) (s1 : SeqAt.shaped d1 = true) (s2 : SeqAt.shaped d2 = true) (e : PyData.eqv d1 d2 = r) (q : Q (.bl (!r)) H) : neP K x y H Q := .inr ⟨d1, d2, h1, h2, s1, s2, by rw [e]; exact q⟩
theorem dp_bls (bs : List Bool) : DpAll K H (bs.map V.bl) (bs.map PyData.bool) := by
  induction bs with
  | nil => exact .nil
  | cons b r ih => exact .cons (.bl b) ih
theorem dp_ints (ns : List Int) : DpAll K H (ns.map V.int) (ns.map PyData.int) := by
  induction ns with
  | nil => exact .nil
  | cons b r ih => exact .cons (.int b) ih
end
theorem cIsX (K : PySem.W.Frag) {X : Cx} {a : Addr} {oe : Obj} {cls : Value} {d : Option Addr} {pn : List (Addr × Obj)} (hz : Zc cls d oe) (hf : ∃ vs, oe.data = .fields vs) (h : X.K = K := by rfl) : CallR (X.suite a ((a, oe) :: pn)) (.builtin "isinstance") (rIsX K a cls d) := h ▸ call_isX hz hf
/-- what a clause asks, at an error of a class that it names -/
theorem i_caught {K : PySem.W.Frag} {C : Addr} {c : Value} {i : Nat} {ts : Addr → Value → Option Addr → TS} {Wout : WX} {D : Ends} {d : Option Addr} {σ : L2.St} {H : Hp} (h : PySem.W.exmOne K (.ref C) c = some true)
    (q : ∀ a, H a = none → ts a (.ref C) d { nx := fun σ' H' => D.nx (σ'.set i none) H', rt := D.rt, bk := fun σ' H' => D.bk (σ'.set i none) H', ct := fun σ' H' => D.ct (σ'.set i none) H' } (σ.set i (some (.ref a))) H) : wAs K c i ts Wout D (.ref C) d σ H :=
  ⟨true, h, fun _ => q, fun z => nomatch z⟩
/-! ### isinstance and clauses, from what stands of the classes -/
theorem kit_ref {K : PySem.W.Frag} {C D : Addr} {b : Bool} (hi : PySem.W.isClsIn K D = true) (ht : PySem.W.typeIn K (.ref D) = some (.type "type")) (hs : PySem.W.subIn K (.ref D) (.ref D) = some true) (e : PySem.W.subIn K (.ref C) (.ref D) = some b) : PySem.W.kitOne K (.ref C) (.ref D) = some b := by
  unfold PySem.W.kitOne
  by_cases h : C = D
  · subst h
    rw [hs] at e
    rw [if_pos (beq_self_eq_true _)]
    exact e
  · rw [if_neg (fun z => h (by simpa using z))]
    show (if ((PySem.W.clsIn K D).isSome && PySem.W.typeIn K (.ref D) == some (.type "type")) = true then PySem.W.subIn K (.ref C) (.ref D) else none) = _
    rw [show (PySem.W.clsIn K D).isSome = true from hi, ht, if_pos (by simp)]
    exact e
theorem kit_base {K : PySem.W.Frag} {C : Addr} {T : String} {b : Bool} (hm : PySem.W.kitMeta T = true) (e : PySem.W.subIn K (.ref C) (.type T) = some b) : PySem.W.kitOne K (.ref C) (.type T) = some b := by
  unfold PySem.W.kitOne
  rw [if_neg (by simp)]
  show (if PySem.W.kitMeta T = true then PySem.W.subIn K (.ref C) (.type T) else none) = _
  rw [if_pos hm]
  exact e
theorem exm_ref {K : PySem.W.Frag} {C D : Addr} {b : Bool} (hi : PySem.W.isClsIn K D = true) (ht : PySem.W.typeIn K (.ref D) = some (.type "type")) (hb : PySem.W.subIn K (.ref D) (.type "BaseException") = some true) (e : PySem.W.subIn K (.ref C) (.ref D) = some b) : PySem.W.exmOne K (.ref C) (.ref D) = some b := by
  unfold PySem.W.exmOne
  rw [hb, if_pos (by simp)]
  show (if ((PySem.W.clsIn K D).isSome && PySem.W.typeIn K (.ref D) == some (.type "type")) = true then PySem.W.subIn K (.ref C) (.ref D) else none) = _
  rw [show (PySem.W.clsIn K D).isSome = true from hi, ht, if_pos (by simp)]
  exact e
/-! ### what is never come to; a comprehension in a comprehension -/
theorem pe_never {X : Cx} {e : Expr} : PE X e (fun _ _ _ => False) := ⟨fun _ _ _ _ _ _ h => h.elim⟩
theorem passN {X : Cx} : Passes (L2.CX X.prog X.w) X E0 := fun _ _ _ _ _ _ _ ⟨_, _, _, _, _, _, _, _, _, _, _, _, h⟩ => h.elim
theorem pss_never {X : Cx} {st : List Stmt} : PSs X st (fun _ _ _ => False) := ⟨fun _ _ _ _ _ _ h => h.elim⟩
theorem blkOk_in {N : List Str} {sc scope scope2 : Scope} {own : List (Str × Nat)} {X : Cx} {s : Shared} {H : Hp} {cl : List (Str × Addr)} {C : Addr} {fp : List Addr} (hN : X.N = N) (he : X.env.scope = sc) (h : blkC N (relS scope sc) scope2 own = true) :
    BlkOk (X.blk s H scope (compEnvC scope cl C X.env) fp).N (X.blk s H scope (compEnvC scope cl C X.env) fp).env.scope scope2 own := by
  subst hN he
  exact blkOk_by h
theorem i_is_bl {H : Hp} {Q : VK} {b : Bool} (q : Q (.bl false) H) : isP (.bl b) .non H Q := ⟨rfl, q⟩
theorem i_isn_bl {H : Hp} {Q : VK} {b : Bool} (q : Q (.bl true) H) : isNotP (.bl b) .non H Q := ⟨rfl, q⟩
theorem i_int_bl {H : Hp} {Q : VK} {b : Bool} (q : Q (.int (if b then 1 else 0)) H) : rIntP [.bl b] H Q := .inr ⟨b, rfl, q⟩
section
variable {K : PySem.W.Frag} {σ : L2.St} {H : Hp} {Q : VK} {D : Ends} {te : TE} {ta : TA} {i j : Nat} {u v w x : V} {a : Addr} {Qs : L2.St → Hp → Prop}
theorem i_par (q : ta σ H fun vs H1 => ∃ v w, vs = [v, w] ∧ D.nx ((σ.set i (some v)).set j (some w)) H1) : tPar i j ta D σ H := q
theorem i_par2 (q : D.nx ((σ.set i (some v)).set j (some w)) H) : ∃ v' w', [v, w] = [v', w'] ∧ D.nx ((σ.set i (some v')).set j (some w')) H := ⟨v, w, rfl, q⟩
theorem i_aug {ti : TIp} (h : σ[i]? = some (some x)) (q : te σ H fun y H1 => ti x y H1 fun z H2 => D.nx (σ.set i (some z)) H2) : tAug i te ti D σ H := ⟨x, h, q⟩
theorem i_ipI {f : Int → Int → Int} {a b : Int} (q : Q (.int (f a b)) H) : ipI f (.int a) (.int b) H Q := ⟨a, b, rfl, rfl, q⟩
theorem i_gtup2 (h : SqT K H a [u, v]) (q : Qs ((σ.set i (some u)).set j (some v)) H) : gTup K 2 (gCons (gName i) (gCons (gName j) gNil)) (.ref a) σ H Qs := ⟨a, _, rfl, h, rfl, u, _, rfl, v, _, rfl, rfl, q⟩
theorem i_while {c : TT} {tb : TS} (W : Nat → L2.St → Hp → Prop) (m : Nat) (h0 : W m σ H)
    (h : ∀ m σ H, W m σ H → c σ H fun b H1 => if b = true then ∃ N : L2.St → Hp → Prop, (∀ σ' H', N σ' H' → ∃ m', m' < m ∧ W m' σ' H') ∧ tb { D with nx := N, ct := N, bk := D.nx } σ H1 else D.nx σ H1) : tWhile c tb D σ H := ⟨W, ⟨m, h0⟩, h⟩
theorem i_turn {tb : TS} {W : Nat → L2.St → Hp → Prop} {m : Nat} (q : tb { D with nx := fun σ' H' => ∃ m', m' < m ∧ W m' σ' H', ct := fun σ' H' => ∃ m', m' < m ∧ W m' σ' H', bk := D.nx } σ H) :
    ∃ N : L2.St → Hp → Prop, (∀ σ' H', N σ' H' → ∃ m', m' < m ∧ W m' σ' H') ∧ tb { D with nx := N, ct := N, bk := D.nx } σ H := ⟨_, fun _ _ h => h, q⟩
theorem i_lstRg1 (q : te σ H fun x H1 => ∃ n, x = .int n ∧ RgOk 0 n ∧ ∀ q, H1 q = none → Q (.ref q) (upd H1 q (.lst (rgV 0 n)))) : tLstRg (tRg1 te) σ H Q := q
theorem rgV_nat (n : Nat) : rgV 0 (n : Int) = (List.range n).map fun (i : Nat) => V.int (i : Int) := by
  unfold rgV
  rw [Int.sub_zero, Int.toNat_natCast]
  exact List.map_congr_left fun i _ => by rw [Int.zero_add]
theorem i_rg {n : Nat} {P : Addr → Prop} (hn : n ≤ 100000) (q : ∀ q, H q = none → P q) : RgOk 0 (n : Int) ∧ ∀ q, H q = none → P q := ⟨⟨by omega, by omega, by omega, by omega, by omega⟩, q⟩
end
end Fg
/-! Loops and comprehensions, by what a turn does. -/
namespace Fg
open PySem PySem.Spec PyProof.Rows L2
theorem same_upd {H : Hp} {p : Addr} {o : HO} (h : H p = none) : Same H (upd H p o) := fun b x e => by
  rw [upd_ne (ne_of_none e h)]
  exact e
theorem Same.upd {H H' : Hp} {p : Addr} {o : HO} (e : Same H H') (h : H p = none) : Same H (upd H' p o) := fun b x eb => by
  rw [upd_ne (ne_of_none eb h)]
  exact e b x eb
theorem Same.tup {K : PySem.W.Frag} {H H' : Hp} {a : Addr} {xs : List V} (e : Same H H') (h : SqT K H a xs) : SqT K H' a xs := by
  rcases h with (h | ⟨o, h⟩) | h
  · exact .inl (.inl (e _ _ h))
  · exact .inl (.inr ⟨o, e _ _ h⟩)
  · exact .inr h
section
variable {K : PySem.W.Frag} {σ : L2.St} {H : Hp} {Q : VK} {D : Ends} {te tl : TE} {tt : TT} {ta : TA} {tb : TS} {j : Nat} {g : TG} {a : Addr} {xs : List V} {z : List Nat} {vs : List Nat}
/-- for j in range(n) -/
theorem f_rng1 (n : Nat) (ha : ∀ R : List V → Hp → Prop, R [.int (n : Int)] H → ta σ H R) (hn : n ≤ 100000000) (Pv : Nat → L2.St → Hp → Prop) (h0 : Pv 0 σ H)
    (hs : ∀ i σ' H', i < n → Pv i σ' H' → g (.int (i : Int)) σ' H' fun σ2 H2 => tb { D with nx := Pv (i + 1), ct := Pv (i + 1), bk := D.nx } σ2 H2) (hd : ∀ σ' H', Pv n σ' H' → D.nx σ' H') : tFor (iRng1 ta) g tb D σ H := by
  refine ha _ ⟨(n : Int), rfl, by omega, by omega, ?_⟩
  rw [Int.toNat_natCast]
  refine for_range Pv h0 (fun i σ' H' hi p => ?_) hd
  rw [Int.zero_add]
  exact hs i σ' H' hi p
/-- for j in range(lo, n) -/
theorem f_rng2 (lo n : Nat) (ha : ∀ R : List V → Hp → Prop, R [.int (lo : Int), .int (n : Int)] H → ta σ H R) (hn : lo ≤ 100000 ∧ n ≤ 100000000) (Pv : Nat → L2.St → Hp → Prop) (h0 : Pv 0 σ H)
    (hs : ∀ i σ' H', lo + i < n → Pv i σ' H' → g (.int ((lo + i : Nat) : Int)) σ' H' fun σ2 H2 => tb { D with nx := Pv (i + 1), ct := Pv (i + 1), bk := D.nx } σ2 H2) (hd : ∀ σ' H', Pv (n - lo) σ' H' → D.nx σ' H') : tFor (iRng2 ta) g tb D σ H := by
  refine ha _ ⟨(lo : Int), (n : Int), rfl, ⟨by omega, by omega, by omega, by omega⟩, ?_⟩
  have e : ((n : Int) - (lo : Int)).toNat = n - lo := by omega
  rw [e]
  refine for_range Pv h0 (fun i σ' H' hi p => ?_) hd
  rw [← Int.natCast_add]
  exact hs i σ' H' (by omega) p
theorem f_lst (ha : ∀ R : VK, R (.ref a) H → te σ H R) (hx : SqL K H a xs) (Pv : Nat → L2.St → Hp → Prop) (h0 : Pv 0 σ H) (hl : ∀ i σ' H', i ≤ xs.length → Pv i σ' H' → SqL K H' a xs)
    (hs : ∀ i x σ' H', xs[i]? = some x → Pv i σ' H' → g x σ' H' fun σ2 H2 => tb { D with nx := Pv (i + 1), ct := Pv (i + 1), bk := D.nx } σ2 H2) (hd : ∀ σ' H', Pv xs.length σ' H' → D.nx σ' H') : tFor (iAny K te) g tb D σ H :=
  ha _ (.inl ⟨a, xs, rfl, hx, for_list Pv h0 hl hs hd⟩)
theorem f_tup (ha : ∀ R : VK, R (.ref a) H → te σ H R) (hx : SqT K H a xs) (Pv : Nat → L2.St → Hp → Prop) (h0 : Pv 0 σ H) (hl : ∀ i σ' H', i ≤ xs.length → Pv i σ' H' → SqT K H' a xs)
    (hs : ∀ i x σ' H', xs[i]? = some x → Pv i σ' H' → g x σ' H' fun σ2 H2 => tb { D with nx := Pv (i + 1), ct := Pv (i + 1), bk := D.nx } σ2 H2) (hd : ∀ σ' H', Pv xs.length σ' H' → D.nx σ' H') : tFor (iAny K te) g tb D σ H :=
  ha _ (.inr (.inl ⟨a, xs, rfl, hx, for_tup Pv h0 hl hs hd⟩))
theorem f_str (ha : ∀ R : VK, R (S z) H → te σ H R) (Pv : Nat → L2.St → Hp → Prop) (h0 : Pv 0 σ H)
    (hs : ∀ i c σ' H', z[i]? = some c → Pv i σ' H' → g (S [c]) σ' H' fun σ2 H2 => tb { D with nx := Pv (i + 1), ct := Pv (i + 1), bk := D.nx } σ2 H2) (hd : ∀ σ' H', Pv z.length σ' H' → D.nx σ' H') : tFor (iAny K te) g tb D σ H := by
  have e : (⟨z.toArray⟩ : Str).cps.size = z.length := str_len z
  refine ha _ (.inr (.inr ⟨_, rfl, for_it walk_str Pv h0 (fun _ _ _ _ _ => True.intro) (fun i x σ' H' H2 hi p y => ?_) (by rw [e]; exact hd)⟩))
  obtain ⟨rfl, c, hc, rfl⟩ := y
  exact hs i c σ' _ (by simpa using hc) p
/-- for i, c in enumerate(text) -/
theorem f_enumS {i1 i2 : Nat} (ha : ∀ R : List V → Hp → Prop, R [S z] H → ta σ H R) (Pv : Nat → L2.St → Hp → Prop) (h0 : Pv 0 σ H)
    (hs : ∀ i c σ' H' T, z[i]? = some c → Pv i σ' H' → H' T = none → tb { D with nx := Pv (i + 1), ct := Pv (i + 1), bk := D.nx } ((σ'.set i1 (some (.int (i : Int)))).set i2 (some (S [c]))) (upd H' T (.tup [.int (i : Int), S [c]]))) (hd : ∀ σ' H', Pv z.length σ' H' → D.nx σ' H') :
    tFor (iEnumP K ta) (gTup K 2 (gCons (gName i1) (gCons (gName i2) gNil))) tb D σ H := by
  have e : (⟨z.toArray⟩ : Str).cps.size = z.length := str_len z
  refine ha _ (.inr ⟨⟨z.toArray⟩, rfl, ?_⟩)
  have w : Walk (Ites ⟨z.toArray⟩) z.length (fun _ => True) (fun i Ha v Hb => ∃ T c, v = .ref T ∧ Ha T = none ∧ Hb = upd Ha T (.tup [.int (i : Nat), S [c]]) ∧ z[i]? = some c) := by
    refine ⟨fun i H' hi _ => by show i < (⟨z.toArray⟩ : Str).cps.size; rw [e]; exact hi, fun H' _ => e.symm, fun i H' x H2 hi _ y => ?_⟩
    obtain ⟨T, c, h1, h2, h3, h4⟩ := y
    exact ⟨T, c, h1, h2, h3, by simpa using h4⟩
  refine for_it w Pv h0 (fun _ _ _ _ _ => True.intro) (fun i x σ' H' H2 hi p y => ?_) hd
  obtain ⟨T, c, rfl, nT, rfl, hc⟩ := y
  exact ⟨T, _, rfl, SqT.of upd_same, rfl, _, _, rfl, _, _, rfl, rfl, hs i c σ' H' T hc p nT⟩
/-! comprehensions whose elements leave what stood -/
def Lw (H1 : Hp) (Dl : Addr) (l : Nat → List V) (i : Nat) (H' : Hp) : Prop := H1 Dl = none ∧ Same H1 H' ∧ H' Dl = some (.lst (l i))
/-- the kept ones among the first n -/
def kept (f : Nat → Bool) (v : Nat → V) (n : Nat) : List V := ((List.range n).filter f).map v
theorem kept_yes {f : Nat → Bool} {v : Nat → V} {n : Nat} (h : f n = true) : kept f v (n + 1) = kept f v n ++ [v n] := by
  unfold kept
  rw [List.range_succ, List.filter_append, List.map_append, List.filter_cons_of_pos h] <;> rfl
theorem kept_no {f : Nat → Bool} {v : Nat → V} {n : Nat} (h : f n = false) : kept f v (n + 1) = kept f v n := by
  unfold kept
  rw [List.range_succ, List.filter_append, List.map_append, List.filter_cons_of_neg (by rw [h]; decide)]
  simp
theorem kept_len (f : Nat → Bool) (v : Nat → V) (n : Nat) : (kept f v n).length ≤ n := by
  unfold kept
  rw [List.length_map]
  exact Nat.le_trans (List.length_filter_le _ _) (by rw [List.length_range]; exact Nat.le_refl _)
theorem kept_all (v : Nat → V) (n : Nat) : kept (fun _ => true) v n = (List.range n).map v := by
  unfold kept
  rw [List.filter_eq_self.mpr (fun _ _ => rfl)]
theorem lw_turn {H1 H' : Hp} {Dl : Addr} {f : Nat → Bool} {v : Nat → V} {i : Nat} {σ2 : L2.St} (p : Lw H1 Dl (kept f v) i H') (hi : i < 100000)
    (ht : ∀ H2, Same H1 H2 → ∀ QB : Bool → Hp → Prop, (∀ H3, Same H2 H3 → QB (f i) H3) → tt σ2 H2 QB) (he : ∀ H2, Same H1 H2 → f i = true → ∀ QV : VK, (∀ H3, Same H2 H3 → QV (v i) H3) → te σ2 H2 QV) :
    tt σ2 H' fun b H3 => if b = true then te σ2 H3 fun y H4 => ∃ acc, H4 Dl = some (.lst acc) ∧ acc.length < sizeLine ∧ Lw H1 Dl (kept f v) (i + 1) (upd H4 Dl (.lst (acc ++ [y]))) else Lw H1 Dl (kept f v) (i + 1) H3 := by
  obtain ⟨n1, s1, d1⟩ := p
  refine ht H' s1 _ fun H3 s3 => ?_
  cases hf : f i with
  | true =>
    rw [if_pos rfl]
    refine he H3 (s1.trans s3) hf _ fun H4 s4 => ⟨kept f v i, s4 _ _ (s3 _ _ d1), ?_, n1, ?_, ?_⟩
    · exact Nat.lt_of_le_of_lt (kept_len f v i) (Nat.lt_trans hi (by decide))
    · exact Same.upd ((s1.trans s3).trans s4) n1
    · rw [kept_yes hf]; exact upd_same
  | false =>
    rw [if_neg (by decide)]
    exact ⟨n1, s1.trans s3, by rw [kept_no hf]; exact s3 _ _ d1⟩
/-- [te for j in range(n) if tt] -/
theorem c_rng1 (n : Nat) (ha : ∀ R : List V → Hp → Prop, R [.int (n : Int)] H → ta σ H R) (hn : n ≤ 100000) (f : Nat → Bool) (v : Nat → V) (hw : ∀ x, wipe ((wipe σ vs).set j (some x)) vs = wipe σ vs)
    (ht : ∀ i H2, i < n → Same H H2 → ∀ QB : Bool → Hp → Prop, (∀ H3, Same H2 H3 → QB (f i) H3) → tt ((wipe σ vs).set j (some (.int (i : Int)))) H2 QB)
    (he : ∀ i H2, i < n → Same H H2 → f i = true → ∀ QV : VK, (∀ H3, Same H2 H3 → QV (v i) H3) → te ((wipe σ vs).set j (some (.int (i : Int)))) H2 QV)
    (q : ∀ Dl H2, H Dl = none → Same H H2 → H2 Dl = some (.lst (kept f v n)) → Q (.ref Dl) H2) : tLc (iRng1 ta) (gName j) tt te vs σ H Q := by
  refine ha _ ⟨(n : Int), rfl, by omega, by omega, fun Dl nD => ?_⟩
  rw [Int.toNat_natCast]
  refine lc_range (Lw H Dl (kept f v)) ⟨nD, same_upd nD, upd_same⟩ (fun i H' hi p => ?_) (fun H' p => q Dl H' p.1 p.2.1 p.2.2)
  rw [Int.zero_add]
  exact ⟨hw _, lw_turn p (by omega) (fun H2 s2 => ht i H2 hi s2) (fun H2 s2 => he i H2 hi s2)⟩
/-- .. every one -/
theorem c_rng1A (n : Nat) (ha : ∀ R : List V → Hp → Prop, R [.int (n : Int)] H → ta σ H R) (hn : n ≤ 100000) (v : Nat → V) (hw : ∀ x, wipe ((wipe σ vs).set j (some x)) vs = wipe σ vs)
    (he : ∀ i H2, i < n → Same H H2 → ∀ QV : VK, (∀ H3, Same H2 H3 → QV (v i) H3) → te ((wipe σ vs).set j (some (.int (i : Int)))) H2 QV)
    (q : ∀ Dl H2, H Dl = none → Same H H2 → H2 Dl = some (.lst ((List.range n).map v)) → Q (.ref Dl) H2) : tLc (iRng1 ta) (gName j) tYes te vs σ H Q :=
  c_rng1 n ha hn (fun _ => true) v hw (fun i H2 hi s2 QB k => k H2 (L2.Same.refl H2)) (fun i H2 hi s2 _ => he i H2 hi s2) (fun Dl H2 n1 s1 d1 => q Dl H2 n1 s1 (by rw [kept_all] at d1; exact d1))
/-- [te for j in a list if tt] -/
theorem c_lst (ha : ∀ R : VK, R (.ref a) H → tl σ H R) (hx : SqL K H a xs) (hn : xs.length ≤ 100000) (f : Nat → Bool) (v : Nat → V) (hw : ∀ x, wipe ((wipe σ vs).set j (some x)) vs = wipe σ vs)
    (ht : ∀ i x H2, xs[i]? = some x → Same H H2 → ∀ QB : Bool → Hp → Prop, (∀ H3, Same H2 H3 → QB (f i) H3) → tt ((wipe σ vs).set j (some x)) H2 QB)
    (he : ∀ i x H2, xs[i]? = some x → Same H H2 → f i = true → ∀ QV : VK, (∀ H3, Same H2 H3 → QV (v i) H3) → te ((wipe σ vs).set j (some x)) H2 QV)
    (q : ∀ Dl H2, H Dl = none → Same H H2 → H2 Dl = some (.lst (kept f v xs.length)) → Q (.ref Dl) H2) : tLc (iAny K tl) (gName j) tt te vs σ H Q := by
  refine ha _ (.inl ⟨a, xs, rfl, hx, fun Dl nD => ?_⟩)
  refine lc_list (Lw H Dl (kept f v)) ⟨nD, same_upd nD, upd_same⟩ (fun i H' hi p => p.2.1.seq hx) (fun i x H' hi p => ?_) (fun H' p => q Dl H' p.1 p.2.1 p.2.2)
  have hlt := (List.getElem?_eq_some_iff.mp hi).1
  exact ⟨hw _, lw_turn p (by omega) (fun H2 s2 => ht i x H2 hi s2) (fun H2 s2 => he i x H2 hi s2)⟩
/-- [te for j in a tuple if tt] -/
theorem c_tup (ha : ∀ R : VK, R (.ref a) H → tl σ H R) (hx : SqT K H a xs) (hn : xs.length ≤ 100000) (f : Nat → Bool) (v : Nat → V) (hw : ∀ x, wipe ((wipe σ vs).set j (some x)) vs = wipe σ vs)
    (ht : ∀ i x H2, xs[i]? = some x → Same H H2 → ∀ QB : Bool → Hp → Prop, (∀ H3, Same H2 H3 → QB (f i) H3) → tt ((wipe σ vs).set j (some x)) H2 QB)
    (he : ∀ i x H2, xs[i]? = some x → Same H H2 → f i = true → ∀ QV : VK, (∀ H3, Same H2 H3 → QV (v i) H3) → te ((wipe σ vs).set j (some x)) H2 QV)
    (q : ∀ Dl H2, H Dl = none → Same H H2 → H2 Dl = some (.lst (kept f v xs.length)) → Q (.ref Dl) H2) : tLc (iAny K tl) (gName j) tt te vs σ H Q := by
  refine ha _ (.inr (.inl ⟨a, xs, rfl, hx, fun Dl nD => ?_⟩))
  refine lc_tup (Lw H Dl (kept f v)) ⟨nD, same_upd nD, upd_same⟩ (fun i H' hi p => Same.tup p.2.1 hx) (fun i x H' hi p => ?_) (fun H' p => q Dl H' p.1 p.2.1 p.2.2)
  have hlt := (List.getElem?_eq_some_iff.mp hi).1
  exact ⟨hw _, lw_turn p (by omega) (fun H2 s2 => ht i x H2 hi s2) (fun H2 s2 => he i x H2 hi s2)⟩
end
/-! a loop over what the text makes anew -/
def LoopG (g : TG) (tb : TS) (D : Ends) (σ : L2.St) : It → Hp → Prop := fun J H1 => tFor (fun _ _ R => R J H1) g tb D σ H1
section
variable {K : PySem.W.Frag} {σ : L2.St} {H : Hp} {D : Ends} {te : TE} {tb : TS} {g : TG} {a : Addr} {xs : List V}
theorem i_for (q : te σ H fun x H1 => (∃ a xs, x = .ref a ∧ SqL K H1 a xs ∧ LoopG g tb D σ (Itl K a) H1) ∨ (∃ a xs, x = .ref a ∧ SqT K H1 a xs ∧ LoopG g tb D σ (Itt K a) H1) ∨ (∃ z, x = .str z ∧ LoopG g tb D σ (Its z) H1)) : tFor (iAny K te) g tb D σ H := q
theorem i_forL {B : Prop} (hx : SqL K H a xs) (Pv : Nat → L2.St → Hp → Prop) (h0 : Pv 0 σ H) (hl : ∀ i σ' H', i ≤ xs.length → Pv i σ' H' → SqL K H' a xs)
    (hs : ∀ i x σ' H', xs[i]? = some x → Pv i σ' H' → g x σ' H' fun σ2 H2 => tb { D with nx := Pv (i + 1), ct := Pv (i + 1), bk := D.nx } σ2 H2) (hd : ∀ σ' H', Pv xs.length σ' H' → D.nx σ' H') :
    (∃ a' xs', V.ref a = .ref a' ∧ SqL K H a' xs' ∧ LoopG g tb D σ (Itl K a') H) ∨ B := .inl ⟨a, xs, rfl, hx, for_list Pv h0 hl hs hd⟩
end
/-! a loop over a range whose end the text makes anew; lists put together, cut -/
section
variable {K : PySem.W.Frag} {σ : L2.St} {H : Hp} {Q : VK} {D : Ends} {ta : TA} {tb : TS} {g : TG} {a b : Addr} {xs ys : List V}
theorem i_forR (q : ta σ H fun vs H1 => ∃ j : Int, vs = [.int j] ∧ -(2 ^ 62) ≤ j ∧ j < 2 ^ 62 ∧ LoopG g tb D σ (Itr 0 j.toNat) H1) : tFor (iRng1 ta) g tb D σ H := q
theorem i_rngD {n : Int} (h0 : 0 ≤ n) (h : n ≤ 100000000) (Pv : Nat → L2.St → Hp → Prop) (hp : Pv 0 σ H)
    (hs : ∀ (i : Nat) σ' H', (i : Int) < n → Pv i σ' H' → g (.int (i : Int)) σ' H' fun σ2 H2 => tb { D with nx := Pv (i + 1), ct := Pv (i + 1), bk := D.nx } σ2 H2) (hd : ∀ σ' H', Pv n.toNat σ' H' → D.nx σ' H') :
    ∃ j : Int, [V.int n] = [.int j] ∧ -(2 ^ 62) ≤ j ∧ j < 2 ^ 62 ∧ LoopG g tb D σ (Itr 0 j.toNat) H := by
  refine ⟨n, rfl, by omega, by omega, ?_⟩
  refine for_range Pv hp (fun i σ' H' hi p => ?_) hd
  rw [Int.zero_add]
  exact hs i σ' H' (by omega) p
theorem i_catL (h1 : H a = some (.lst xs)) (h2 : H b = some (.lst ys)) (hz : xs.length + ys.length ≤ 100000) (q : ∀ p, H p = none → Q (.ref p) (upd H p (.lst (xs ++ ys)))) : addP K (.ref a) (.ref b) H Q :=
  .inr (.inr (.inl ⟨a, b, xs, ys, rfl, rfl, h1, h2, Nat.le_trans hz (by decide), q⟩))
theorem i_slL {lo hi : Option Int} (h : SqL K H a xs) (q : ∀ p, H p = none → Q (.ref p) (upd H p (.lst (cutV xs lo hi)))) : slP K (.ref a) lo hi H Q := .inl ⟨a, xs, rfl, h, q⟩
theorem cutV_init (xs : List V) : cutV xs none (some (-1)) = xs.dropLast := by
  unfold cutV
  rw [HT.sIx_none, List.drop_zero, Nat.sub_zero, List.dropLast_eq_take]
  have e : HT.sIx xs.length xs.length (some (-1)) = xs.length - 1 := by
    unfold HT.sIx
    dsimp only
    rw [if_pos (by decide)]
    omega
  rw [e]
theorem cutV_to {xs : List V} (k : Nat) : cutV xs none (some (k : Int)) = xs.take k := by
  unfold cutV
  rw [HT.sIx_none, List.drop_zero, Nat.sub_zero, HT.sIx_nat]
  by_cases h : k ≤ xs.length
  · rw [Nat.min_eq_left h]
  · rw [Nat.min_eq_right (by omega), List.take_length, List.take_of_length_le (by omega)]
theorem atI_last {xs : List V} {v : V} : atI (xs ++ [v]) (-1) = some v := by
  unfold atI ixN
  rw [if_neg (by decide), if_pos (by rw [List.length_append, List.length_singleton]; omega), Option.bind_some]
  have e : (-1 + ((xs ++ [v]).length : Int)).toNat = xs.length := by rw [List.length_append, List.length_singleton]; omega
  rw [e, List.getElem?_append_right (Nat.le_refl _), Nat.sub_self]
  rfl
end
end Fg
/-! A comprehension over a range, its list and what it makes anew. -/
namespace Fg
open PySem PySem.Spec PyProof.Rows L2
def LcG (g : TG) (tt : TT) (te : TE) (vs : List Nat) (σ : L2.St) (Q : VK) : It → Hp → Prop := fun J H1 => tLc (fun _ _ R => R J H1) g tt te vs σ H1 Q
section
variable {K : PySem.W.Frag} {σ : L2.St} {H : Hp} {Q : VK} {te tl : TE} {tt : TT} {g : TG} {ta : TA} {j : Nat} {vs : List Nat} {a : Addr} {xs : List V}
theorem i_lcR (q : ta σ H fun us H1 => ∃ n : Int, us = [.int n] ∧ -(2 ^ 62) ≤ n ∧ n < 2 ^ 62 ∧ LcG g tt te vs σ Q (Itr 0 n.toNat) H1) : tLc (iRng1 ta) g tt te vs σ H Q := q
theorem i_lcRg {n : Int} (h0 : 0 ≤ n) (h : n ≤ 100000) (hw : ∀ x, wipe ((wipe σ vs).set j (some x)) vs = wipe σ vs)
    (k : ∀ Dl, H Dl = none → ∃ W : Nat → Hp → Prop, W 0 (upd H Dl (.lst [])) ∧ (∀ (i : Nat) H', (i : Int) < n → W i H' → te ((wipe σ vs).set j (some (.int (i : Int)))) H' fun y H2 => ∃ acc, H2 Dl = some (.lst acc) ∧ acc.length < sizeLine ∧ W (i + 1) (upd H2 Dl (.lst (acc ++ [y])))) ∧ ∀ H', W n.toNat H' → Q (.ref Dl) H') :
    ∃ n' : Int, [V.int n] = [.int n'] ∧ -(2 ^ 62) ≤ n' ∧ n' < 2 ^ 62 ∧ LcG (gName j) tYes te vs σ Q (Itr 0 n'.toNat) H := by
  refine ⟨n, rfl, by omega, by omega, fun Dl nD => ?_⟩
  obtain ⟨W, w0, ws, wd⟩ := k Dl nD
  refine lc_range W w0 (fun i H' hi p => ?_) wd
  rw [Int.zero_add]
  exact ⟨hw _, i_yes (i_tt (ws i H' (by omega) p))⟩
end
end Fg
/-! Defs whose promise holds where nothing is being displayed around them (so that repr may be asked of data), and the end of a law of such defs. -/
namespace Fg
open PySem PySem.Spec PyProof.Rows L2
/-- the promise of the def at f, where no display stands around -/
structure GOk (P : Program) (w : World) (K : PySem.W.Frag) (mg : Str → Option Value) (base : Heap) (CX : CXT) (k : Nat) (f : Addr) (fd : FuncData) (ps : List Str) (sp : Sp) : Prop where
  many : ∀ vs H Q E, sp vs H Q E → vs.length = ps.length
  runs : ∀ (B : Around) (o : List Env) (t : Shared) (H : Hp) (ar : Args) (us : List Value) (vs : List V) (Q : VK) (E : XK),
    B.guards = some [] → Room k B → Env0 P w K mg base B o t H → BindsTo t fd ar (ps.zip us) → Vals vs us →
    sp vs H Q E → codeAny (model P w) B (.call (.ref f) ar) (CR CX o P w H t Q E) t
section
variable {P : Program} {w : World} {K : PySem.W.Frag} {mg : Str → Option Value} {base : Heap} {CX : CXT} {k : Nat} {f : Addr} {fd : FuncData} {ps N : List Str} {sp : Sp} {x q : Str} {st : Stmt}
theorem GOk.of (F : FnOk P w K mg base CX k f fd ps sp) : GOk P w K mg base CX k f fd ps sp :=
  ⟨F.len, fun B o t H ar us vs Q E _ r e b v s => F.run B o t H ar us vs Q E r e b v s⟩
/-- a def's body, walked where no display stands around -/
theorem gok_mk (F : Fun K x q st f fd) (S : FnScope N ps (defScope st)) (many : ∀ vs H Q E, sp vs H Q E → vs.length = ps.length)
    (body : ∀ (cv : Value) (B : Around) (o : List Env) (t : Shared) (H : Hp) (vs : List V) (Q : VK) (E : XK), B.guards = some [] →
      Room k (B.deeper (envOfC q (defScope st) t.heap.objs.size f cv)) → sp vs H Q E →
      ∃ rd, PSs (cxOf CX P w K mg base N q (defScope st) f cv B o t H E) (defBody st) rd ∧
        rd { nx := fun _ H2 => Q .non H2, rt := Q } (start N vs) H) : GOk P w K mg base CX (k + 1) f fd ps sp := by
  obtain ⟨c1, d1, kw1, dc1, pm1, an1, cv1, ct1, sl1, rfl, at1, code1⟩ := F.ex
  refine ⟨many, fun B o t H ar us vs Q E hgu room en bd rv asked => ?_⟩
  have inK : K.In t.heap := en.mod.kin.keeps fun b u e => (en.bs b u e).1
  have nolim : t.heap.NoLimit := en.mod.nolimit.keeps fun b u e => (en.bs b u e).1
  have n1 := many _ _ _ _ asked
  refine codeAny_call_function room.depth (inK _ _ at1) rfl S.co S.gen rfl
    (PySem.W.codeRec_of inK code1) (bd _ _ _ _ ?_)
  refine wpAny_newFunctionEnv_cells S.kind (fun ⟨nm, u⟩ hm => ?_) fun env he t1 made => ?_
  · exact (S.par nm (List.of_mem_zip hm).1).elim .inl fun z => .inr ⟨z, PySem.W.cellsFrom_some _ _ _ (.inl z)⟩
  subst he
  obtain ⟨rd, walked, holds⟩ := body cv1 B o t H vs Q E hgu (room.deeper _) asked
  have I0 := inv_start (CX := CX) (E := E) S room.hd en n1 rv made
  refine ⟨nolim.keeps made.toInCall.keep, codeAny_func (wpAny_mono (walked.run [] t1 (start N vs) H _ I0 holds) (fun fl t2 h2 => ?_) fun _ _ h2 => h2)⟩
  cases fl with
  | brk => obtain ⟨_, _, _, z⟩ := h2; exact z.elim
  | cont => obtain ⟨_, _, _, z⟩ := h2; exact z.elim
  | next =>
    obtain ⟨_, H2, J, z⟩ := h2
    exact ⟨.non, H2, J.os, J.bare, J.base, J.hok, rfl, z⟩
  | ret u =>
    obtain ⟨v, _, H2, J, rv2, z⟩ := h2
    exact ⟨v, H2, J.os, J.bare, J.base, J.hok, rv2, z⟩
end
section
variable {X : Cx} {CX : CXT} {k : Nat} {f : Addr} {fd : FuncData} {ps : List Str} {sp : Sp} {E : XK} {x : Str} {p pos : PySem.Pos} {e : Expr} {es : List Expr} {ta : TA}
theorem run_g (F : GOk X.prog X.w X.K X.mg X.base CX k f fd ps sp) (hgu : X.A.guards = some []) (hr : Room k X.A) (hb : Binds X.K fd ps []) (hx : Passes CX X E) {pins : List (Addr × Obj)} {σ : L2.St} {H : Hp} {s : Shared} {Q : VK} {us : List Value} {vs : List V}
    (I : Inv X pins σ H s) (r : Vals vs us) (h : sp (vs ++ []) H Q E) : wpAny (model X.prog X.w) X.A (call (.ref f) us) (EP X pins σ Q) X.xe s := by
  rw [List.append_nil] at h
  have n1 : us.length = ps.length := by rw [← r.length]; exact F.many _ _ _ _ h
  have b1 := hb s us I.kIn (by rw [List.append_nil]; exact n1)
  rw [List.append_nil] at b1
  refine wpAny_call (codeAny_mono (F.runs X.A X.stack s H ⟨us, []⟩ us vs Q E hgu hr I.env0 b1 r h) fun res t2 h2 => ?_)
  cases res with
  | error z => exact hx pins σ H s z t2 I h2
  | ok fl =>
    cases fl with
    | next => exact h2.elim
    | brk => exact h2.elim
    | cont => exact h2.elim
    | ret u => exact I.after h2
/-- .. and how it stands in the text -/
def GOK (P : Program) (w : World) (K : PySem.W.Frag) (mg : Str → Option Value) (base : Heap) (CX : CXT) (k : Nat) (x : Str) (ps : List Str) (sp : Sp) : Prop :=
  ∃ (f : Addr) (fd : FuncData), GOk P w K mg base CX k f fd ps sp ∧ mg x = some (.ref f) ∧ PySem.W.keepIn K (.ref f) = true ∧ Binds K fd ps []
theorem pe_g (G : GOK X.prog X.w X.K X.mg X.base CX k x ps sp) (hgu : X.A.guards = some []) (hr : Room k X.A) (hx : Passes CX X E) (ha : PA X (e :: es) ta) (hg : Gl X x := by rfl) (hd : (x == ("__debug__" : Str)) = false := by decide)
    (he : starEach (e :: es) X.env = (false, eval e X.env) :: starEach es X.env := by rfl) (hpl : (backTo pos (starEach es X.env)).any (·.1) = false := by rfl) :
    PE X (.Call (.Name x p) (e :: es) [] pos) (tCall sp [] E ta) := by
  obtain ⟨f, fd, F, hm, hk, hb⟩ := G
  exact ⟨fun pins s σ H Q I h => wpAny_Call_Name_kw (ld_glob I hg hm (PySem.W.callWith_K (h₀ := X.base) I.ok.mod.kin hk
    (thn (ha.run pos pins s σ H _ I h) fun us s1 ⟨vs, H1, I1, r, q⟩ => ⟨I1.kIn, run_g F hgu hr hb hx I1 r q⟩) he hpl) hd)⟩
end
/-! ### repr of data -/
def rReprD (K : PySem.W.Frag) : RC := fun xs H Q => ∃ (a : Addr) (d : PyData), xs = [.ref a] ∧ Dp K H (.ref a) d ∧ d.showable = true ∧ d.hasDict = false ∧ d.depth ≤ 60 ∧ d.shown.length ≤ sizeLine ∧ Q (.str d.shown) H
theorem call_reprD {X : Cx} (hgu : X.A.guards = some []) (hu : X.A.units + 64 < cLine) : CallR X (.builtin "repr") (rReprD X.K) := by
  intro pins s σ H xs us Q I r h
  obtain ⟨a, d, rfl, hd, h1, h2, h3, h4, q⟩ := h
  cases r with
  | cons ru rn =>
    cases rn
    cases (show _ = Value.ref a from ru)
    obtain ⟨as, rd⟩ := Dp.reads I d (.ref a) (.ref a) hd rfl
    exact repr_of_reads' rd h1 (PyData.noDict_hsm h2) hgu (by omega) (fun b o e => e)
      (fun h' u tk hk => ⟨.str d.shown, H, I.kept (t' := tk) hk, ⟨u, rfl⟩, q⟩) h4
/-! ### the end of a law, its def's promise holding where no display stands around -/
/-- one heap in which the script alone may be tracked -/
def SoleAt (K : PySem.W.Frag) (a : Addr) (t : Heap) (P : Program) (w : World) (xs : List V) (H : Hp) : Prop :=
  (∀ b u, H b = some u → b = a ∧ ∃ ob, u = .frz ob (.lst xs)) ∧ SqL K H a xs ∧ HOk P w H t ∧ (H a ≠ none → K.lookup a = none)
theorem law_g {P : Program} {w : World} {K : PySem.W.Frag} {mg mb : Str → Option Value} {CX : CXT} {k : Nat} {fa a : Addr} {fd : FuncData} {x : Str} {sp : Sp} {t : Shared} {vs : List Value} {ns : List Int}
    (inK : K.In t.heap) (nsM : t.heap.Ns mainGlobals mg) (nsB : t.heap.Ns builtinsNs mb) (boot : ∀ y : Str, y ≠ "__name__" → mb y = bootBuiltins y) (lim : t.heap.NoLimit) (noGen : t.gens = #[])
    (script : t.heap.get? a = some { cls := .type "list", data := .seq vs.toArray }) (hni : IntsAre vs ns) (few : ns.length ≤ sizeLine) (room : Room k callerA)
    (F : ∀ base : Heap, K.In base → base.Ns mainGlobals mg → GOk P w K mg base CX k fa fd [x] sp) (bind : ∀ (s : Shared) (u : Value), BindsTo s fd ⟨[u], []⟩ [(x, u)])
    (asked : ∀ H : Hp, Only H → SqL K H a (ns.map V.int) → sp [.ref a] H (fun v _ => v = .bl true) fun _ _ _ => False)
    (noErr : ∀ H e s', CX [] H t (fun _ _ _ => False) e s' → False) :
    codeAny (model P w) callerA (.call (.ref fa) ⟨[.ref a], []⟩) (fun r t2 => r = .ok (.ret (.bool true)) ∧ OldK t.heap t2.heap ∧ t2.os = t.os ∧ AllBare t2.gens) t := by
  have hv := vals_ints hni
  have hlen : vs.length = ns.length := hni.length
  obtain ⟨H, sole, sq, hok, free⟩ : ∃ H, SoleAt K a t.heap P w (ns.map V.int) H := by
    by_cases hk : ∃ o, K.lookup a = some o
    · obtain ⟨o, hk⟩ := hk
      have e1 := inK a o hk
      rw [script] at e1
      cases e1
      exact ⟨fun _ => none, fun b u z => (nomatch z), .inr ⟨_, vs.toArray, _, hk, rfl, rfl, rfl, by rw [List.size_toArray, hlen]; exact few, by simpa using hv⟩, fun b u z => (nomatch z), fun z => absurd rfl z⟩
    · have hn : K.lookup a = none := by
        cases e1 : K.lookup a with
        | none => rfl
        | some o => exact absurd ⟨o, e1⟩ hk
      have at1 : ∀ b u, (if b = a then some (HO.frz { cls := .type "list", data := .seq vs.toArray } (.lst (ns.map V.int))) else none) = some u → b = a ∧ u = HO.frz { cls := .type "list", data := .seq vs.toArray } (.lst (ns.map V.int)) := fun b u z => by
        by_cases hb : b = a
        · rw [if_pos hb] at z; exact ⟨hb, (Option.some.inj z).symm⟩
        · rw [if_neg hb] at z; cases z
      refine ⟨fun b => if b = a then some (HO.frz { cls := .type "list", data := .seq vs.toArray } (.lst (ns.map V.int))) else none, fun b u z => ⟨(at1 b u z).1, _, (at1 b u z).2⟩, .inl (.inr ⟨_, if_pos rfl⟩), fun b u z => ?_, fun _ => hn⟩
      obtain ⟨rfl, rfl⟩ := at1 b u z
      exact ⟨script, by rw [List.length_map]; exact few, vs, _, hv, script⟩
  have only : Only H := fun b => by
    cases e1 : H b with
    | none => exact .inl rfl
    | some u =>
      obtain ⟨_, ob, rfl⟩ := sole b u e1
      exact .inr ⟨ob, _, rfl⟩
  -- the base: what stands, the script hidden if it is tracked
  have hid : ∀ {b : Addr} {o : Obj}, t.heap.get? b = some o → (b = a → H a = none) → (hidT t.heap H).get? b = some o := fun {b o} e1 e2 => hidT_get e1 (by
    cases e3 : H b with
    | none => rfl
    | some u =>
      obtain ⟨rfl, _⟩ := sole b u e3
      rw [e2 rfl] at e3; cases e3)
  have ns : ∀ {b : Addr} {m : Str → Option Value}, t.heap.Ns b m → (hidT t.heap H).Ns b m := fun {b m} ⟨o, es, ep, e1, d1, r1⟩ => ⟨o, es, ep, hid e1 (fun z => by
    subst z
    rw [script] at e1
    cases e1
    cases (show Data.seq vs.toArray _ = Data.dict es ep from d1)), d1, r1⟩
  have inB : K.In (hidT t.heap H) := fun b o e1 => hid (inK b o e1) fun z => by
    subst z
    by_cases e2 : H b = none
    · exact e2
    · rw [free e2] at e1; cases e1
  obtain ⟨mc, l1, l2⟩ := lim
  have en : Env0 P w K mg (hidT t.heap H) callerA [] t H :=
    ⟨rfl, ⟨inB, ns nsM, ⟨mb, ns nsB, boot⟩, ⟨mc, ns l1, l2⟩⟩, fun b o e1 => of_hidT e1, Nat.le_of_eq (hidT_size _ _), trivial,
      fun b hb => absurd (show b ∈ ([] : List Addr) from hb) (by simp), hok, .of_eq noGen⟩
  refine codeAny_mono ((F _ inB (ns nsM)).runs callerA [] t H ⟨[.ref a], []⟩ [.ref a] [.ref a] _ _ rfl room en (bind t (.ref a)) (.cons rfl .nil) (asked H only sq)) fun res t2 h2 => ?_
  cases res with
  | error z => exact (noErr H z t2 h2).elim
  | ok fl =>
    cases fl with
    | next => exact h2.elim
    | brk => exact h2.elim
    | cont => exact h2.elim
    | ret u =>
      obtain ⟨v, H2, os, bare, un, hok2, rv, q⟩ := h2
      have q : v = .bl true := q
      subst q
      cases (show u = Value.bool true from rv)
      refine ⟨rfl, OldK.of_keep fun b o e1 => ?_, os, bare⟩
      cases e2 : H b with
      | none => exact un.keep b o e1 e2 (fun z => absurd (show b ∈ ([] : List Addr) from z) (by simp)) (by simp)
      | some u =>
        obtain ⟨rfl, ob, rfl⟩ := sole b u e2
        obtain ⟨k1, _⟩ := hok _ _ e2
        obtain ⟨k2, _⟩ := hok2 _ _ (un.frzs _ ob _ e2)
        rw [e1] at k1; cases k1
        exact k2
theorem walk_g {l : PySem.W.OpenLaw} {n k : Nat} {q : Program} {loose : List Str} {XP : (Str → Option Value) → Heap → Prop} {YP : World → Heap → Prop} {d : DefRec} {K : Params → PySem.W.Frag} {CX : World → CXT} {sp : World → Sp} {x : Str}
    (hn : l.most = some n) (hn2 : n ≤ sizeLine) (hdf : d.params.defaults = []) (room : Room k callerA) (hY : ∀ (w : World) (h : Heap), YP w h → (K w.params).In h)
    (F : ∀ (w : World) (mg : Str → Option Value) (fa : Addr) (h : Heap), (K w.params).In h → h.Ns mainGlobals mg → mg d.name = some (.ref fa) →
      ∃ fd : FuncData, (∀ (s : Shared) (u : Value), BindsTo s fd ⟨[u], []⟩ [(x, u)]) ∧ ∀ base : Heap, (K w.params).In base → base.Ns mainGlobals mg → GOk l.prog w (K w.params) mg base (CX w) k fa fd [x] (sp w))
    (asked : ∀ (w : World) (H : Hp) (a : Addr) (ns : List Int), ns.length ≤ n → Only H → SqL (K w.params) H a (ns.map V.int) → sp w [.ref a] H (fun v _ => v = .bl true) fun _ _ _ => False)
    (noErr : ∀ (w : World) (H : Hp) (s : Shared) (e : Value) (s' : Shared), CX w [] H s (fun _ _ _ => False) e s' → False) :
    PySem.W.WalkO q loose XP YP l.row.toRowW d [] (fun f vs => PySem.call f vs) :=
  Att.attach_call hn hdf fun w s0 t mg mb fa o pm cd doc a vs ns G Y ho hd hcd hmg hobj hints hlen hg =>
    let ⟨fd, hb, hF⟩ := F w mg fa _ (hY w _ Y) G.T.g hmg
    law_g (hY w _ Y) G.T.g G.T.b G.T.builtins G.T.nolimit hg hobj hints (Nat.le_trans hlen hn2) room hF hb
      (fun H hO hS => asked w H a ns hlen hO hS) fun H e s' => noErr w H t e s'
end Fg
/-! Own classes: methods, their defaults and keywords; own exceptions of two fields. -/
namespace Fg
open PySem PySem.Spec PyProof.Rows L2
/-! ### defs with defaults -/
/-- a def with defaults dvs keeps its promise -/
def OKD (P : Program) (w : World) (K : PySem.W.Frag) (mg : Str → Option Value) (base : Heap) (CX : CXT) (k : Nat) (x : Str) (ps : List Str) (dvs : List V) (sp : Sp) : Prop :=
  ∃ (f : Addr) (fd : FuncData), FnOk P w K mg base CX k f fd ps sp ∧ mg x = some (.ref f) ∧ PySem.W.keepIn K (.ref f) = true ∧ Binds K fd ps [] ∧ ∃ ds, Vals dvs ds ∧ Binds K fd ps ds
/-- .. how it stands in the text -/
def DefD (K : PySem.W.Frag) (mg : Str → Option Value) (x : Str) (st : Stmt) (ps : List Str) (dvs : List V) : Prop :=
  ∃ (f : Addr) (fd : FuncData), FunD K x x (defArgs st) (defBody st) (defScope st) dvs [] f fd ∧ mg x = some (.ref f) ∧ Binds K fd ps [] ∧ ∃ ds, Vals dvs ds ∧ Binds K fd ps ds
section
variable {P : Program} {w : World} {K : PySem.W.Frag} {mg : Str → Option Value} {base : Heap} {x q m : Str} {st : Stmt} {N ps : List Str} {k : Nat} {sp : Sp} {dvs : List V} {C : Addr} {CX : CXT}
theorem OKD.full (G : OKD P w K mg base CX k x ps dvs sp) : OK P w K mg base CX k x ps sp := by
  obtain ⟨f, fd, F, hm, hk, hb, _⟩ := G
  exact ⟨f, fd, F, hm, hk, hb⟩
theorem FunD.ok0 {f : Addr} {fd : FuncData} {kws : List (Str × V)} (F : FunD K x q (defArgs st) (defBody st) (defScope st) dvs kws f fd) (S : FnScope N ps (defScope st)) (len : ∀ vs H Q E, sp vs H Q E → vs.length = ps.length)
    (body : ∀ (cdv : Value) (A : Around) (outer : List Env) (s : Shared) (H : Hp) (vs : List V) (Q : VK) (E : XK), Room k (A.deeper (envOfC q (defScope st) s.heap.objs.size f cdv)) → sp vs H Q E →
      ∃ t, PSs (cxOf CX0 P w K mg base N q (defScope st) f cdv A outer s H E).nox (defBody st) t ∧ t { nx := fun _ H' => Q .non H', rt := Q } (start N vs) H) : FnOk P w K mg base CX0 (k + 1) f fd ps sp :=
  F.ok S len fun cdv A outer s H vs Q E hr h => let ⟨t, z, e⟩ := body cdv A outer s H vs Q E hr h; ⟨t, z.nox, e⟩
theorem OKD.mk (D : DefD K mg x st ps dvs) (S : FnScope N ps (defScope st)) (len : ∀ vs H Q E, sp vs H Q E → vs.length = ps.length)
    (body : ∀ (f : Addr) (cdv : Value) (A : Around) (outer : List Env) (s : Shared) (H : Hp) (vs : List V) (Q : VK) (E : XK), Room k (A.deeper (envOfC x (defScope st) s.heap.objs.size f cdv)) → sp vs H Q E →
      ∃ t, PSs (cxOf CX0 P w K mg base N x (defScope st) f cdv A outer s H E).nox (defBody st) t ∧ t { nx := fun _ H' => Q .non H', rt := Q } (start N vs) H) : OKD P w K mg base CX0 (k + 1) x ps dvs sp := by
  obtain ⟨f, fd, F, hm, hb, hd⟩ := D
  exact ⟨f, fd, FunD.ok0 F S len fun cdv A outer s H vs Q E hr h => body f cdv A outer s H vs Q E hr h, hm, F.kp, hb, hd⟩
theorem OKD.mkX (D : DefD K mg x st ps dvs) (S : FnScope N ps (defScope st)) (len : ∀ vs H Q E, sp vs H Q E → vs.length = ps.length)
    (body : ∀ (f : Addr) (cdv : Value) (A : Around) (outer : List Env) (s : Shared) (H : Hp) (vs : List V) (Q : VK) (E : XK), Room k (A.deeper (envOfC x (defScope st) s.heap.objs.size f cdv)) → sp vs H Q E →
      ∃ t, PSs (cxOf (L2.CX P w) P w K mg base N x (defScope st) f cdv A outer s H E) (defBody st) t ∧ t { nx := fun _ H' => Q .non H', rt := Q } (start N vs) H) : OKD P w K mg base (L2.CX P w) (k + 1) x ps dvs sp := by
  obtain ⟨f, fd, F, hm, hb, hd⟩ := D
  exact ⟨f, fd, F.ok S len fun cdv A outer s H vs Q E hr h => body f cdv A outer s H vs Q E hr h, hm, F.kp, hb, hd⟩
/-! ### methods -/
/-- a method of the class at C as it stands in the text -/
def MetIn (K : PySem.W.Frag) (C : Addr) (m q : Str) (st : Stmt) (ps : List Str) (dvs : List V) : Prop :=
  ∃ (f : Addr) (fd : FuncData), Meth K C m f ∧ FunD K m q (defArgs st) (defBody st) (defScope st) dvs [] f fd ∧ Binds K fd ps [] ∧ ∃ ds, Vals dvs ds ∧ Binds K fd ps ds
/-- .. and it keeps its promise -/
def MOK (P : Program) (w : World) (K : PySem.W.Frag) (mg : Str → Option Value) (base : Heap) (CX : CXT) (k : Nat) (C : Addr) (m : Str) (ps : List Str) (dvs : List V) (sp : Sp) : Prop :=
  ∃ (f : Addr) (fd : FuncData), Meth K C m f ∧ FnOk P w K mg base CX k f fd ps sp ∧ Binds K fd ps [] ∧ ∃ ds, Vals dvs ds ∧ Binds K fd ps ds
theorem MOK.mk (D : MetIn K C m q st ps dvs) (S : FnScope N ps (defScope st)) (len : ∀ vs H Q E, sp vs H Q E → vs.length = ps.length)
    (body : ∀ (f : Addr) (cdv : Value) (A : Around) (outer : List Env) (s : Shared) (H : Hp) (vs : List V) (Q : VK) (E : XK), Room k (A.deeper (envOfC q (defScope st) s.heap.objs.size f cdv)) → sp vs H Q E →
      ∃ t, PSs (cxOf CX0 P w K mg base N q (defScope st) f cdv A outer s H E).nox (defBody st) t ∧ t { nx := fun _ H' => Q .non H', rt := Q } (start N vs) H) : MOK P w K mg base CX0 (k + 1) C m ps dvs sp := by
  obtain ⟨f, fd, hm, F, hb, hd⟩ := D
  exact ⟨f, fd, hm, FunD.ok0 F S len fun cdv A outer s H vs Q E hr h => body f cdv A outer s H vs Q E hr h, hb, hd⟩
theorem MOK.mkX (D : MetIn K C m q st ps dvs) (S : FnScope N ps (defScope st)) (len : ∀ vs H Q E, sp vs H Q E → vs.length = ps.length)
    (body : ∀ (f : Addr) (cdv : Value) (A : Around) (outer : List Env) (s : Shared) (H : Hp) (vs : List V) (Q : VK) (E : XK), Room k (A.deeper (envOfC q (defScope st) s.heap.objs.size f cdv)) → sp vs H Q E →
      ∃ t, PSs (cxOf (L2.CX P w) P w K mg base N q (defScope st) f cdv A outer s H E) (defBody st) t ∧ t { nx := fun _ H' => Q .non H', rt := Q } (start N vs) H) : MOK P w K mg base (L2.CX P w) (k + 1) C m ps dvs sp := by
  obtain ⟨f, fd, hm, F, hb, hd⟩ := D
  exact ⟨f, fd, hm, F.ok S len fun cdv A outer s H vs Q E hr h => body f cdv A outer s H vs Q E hr h, hb, hd⟩
/-- a class whose instances its __init__ makes -/
def MkIn (K : PySem.W.Frag) (mg : Str → Option Value) (x q : Str) (C : Addr) (st : Stmt) (ps : List Str) (dvs : List V) : Prop :=
  ∃ (f : Addr) (fd : FuncData), Mk K C f ∧ mg x = some (.ref C) ∧ FunD K "__init__" q (defArgs st) (defBody st) (defScope st) dvs [] f fd ∧ Binds K fd ps [] ∧ ∃ ds, Vals dvs ds ∧ Binds K fd ps ds
def MkOK (P : Program) (w : World) (K : PySem.W.Frag) (mg : Str → Option Value) (base : Heap) (CX : CXT) (k : Nat) (x : Str) (C : Addr) (ps : List Str) (dvs : List V) (sp : Sp) : Prop :=
  ∃ (f : Addr) (fd : FuncData), Mk K C f ∧ mg x = some (.ref C) ∧ FnOk P w K mg base CX k f fd ps sp ∧ Binds K fd ps [] ∧ ∃ ds, Vals dvs ds ∧ Binds K fd ps ds
theorem MkOK.mk (D : MkIn K mg x q C st ps dvs) (S : FnScope N ps (defScope st)) (len : ∀ vs H Q E, sp vs H Q E → vs.length = ps.length)
    (body : ∀ (f : Addr) (cdv : Value) (A : Around) (outer : List Env) (s : Shared) (H : Hp) (vs : List V) (Q : VK) (E : XK), Room k (A.deeper (envOfC q (defScope st) s.heap.objs.size f cdv)) → sp vs H Q E →
      ∃ t, PSs (cxOf CX0 P w K mg base N q (defScope st) f cdv A outer s H E).nox (defBody st) t ∧ t { nx := fun _ H' => Q .non H', rt := Q } (start N vs) H) : MkOK P w K mg base CX0 (k + 1) x C ps dvs sp := by
  obtain ⟨f, fd, M, hm, F, hb, hd⟩ := D
  exact ⟨f, fd, M, hm, FunD.ok0 F S len fun cdv A outer s H vs Q E hr h => body f cdv A outer s H vs Q E hr h, hb, hd⟩
theorem MkOK.mkX (D : MkIn K mg x q C st ps dvs) (S : FnScope N ps (defScope st)) (len : ∀ vs H Q E, sp vs H Q E → vs.length = ps.length)
    (body : ∀ (f : Addr) (cdv : Value) (A : Around) (outer : List Env) (s : Shared) (H : Hp) (vs : List V) (Q : VK) (E : XK), Room k (A.deeper (envOfC q (defScope st) s.heap.objs.size f cdv)) → sp vs H Q E →
      ∃ t, PSs (cxOf (L2.CX P w) P w K mg base N q (defScope st) f cdv A outer s H E) (defBody st) t ∧ t { nx := fun _ H' => Q .non H', rt := Q } (start N vs) H) : MkOK P w K mg base (L2.CX P w) (k + 1) x C ps dvs sp := by
  obtain ⟨f, fd, M, hm, F, hb, hd⟩ := D
  exact ⟨f, fd, M, hm, F.ok S len fun cdv A outer s H vs Q E hr h => body f cdv A outer s H vs Q E hr h, hb, hd⟩
end
/-! ### the calls -/
section
variable {X : Cx} {CX : CXT} {k n : Nat} {x m : Str} {ps ks : List Str} {sp : Sp} {dvs : List V} {E : XK} {o e : Expr} {es : List Expr} {kws : List Keyword} {to : TE} {ta tk : TA} {p pos apos : PySem.Pos} {C : Addr}
/-- f(e, ..), the defaults filling up -/
theorem pe_fd (G : OKD X.prog X.w X.K X.mg X.base CX k x ps dvs sp) (hr : Room k X.A) (hx : Passes CX X E) (ha : PA X (e :: es) ta) (hg : Gl X x := by rfl) (hd : (x == ("__debug__" : Str)) = false := by decide)
    (he : starEach (e :: es) X.env = (false, eval e X.env) :: starEach es X.env := by rfl) (hpl : (backTo pos (starEach es X.env)).any (·.1) = false := by rfl) :
    PE X (.Call (.Name x p) (e :: es) [] pos) (tCall sp dvs E ta) := by
  obtain ⟨f, fd, F, hm, hk, _, ds, hv, hb⟩ := G
  exact pe_call F hr hg hm hk hb hv hx ha hd he hpl
theorem pe_m {pl : Sem Bool} (ho : PE X o to) (c : Cls X.K C) (G : MOK X.prog X.w X.K X.mg X.base CX k C m ps dvs sp) (hr : Room k X.A) (hx : Passes CX X E) (ha : PA X (e :: es) ta)
    (hst : starEach (e :: es) X.env = (false, eval e X.env) :: starEach es X.env := by rfl) (hpl : (backTo pos (starEach es X.env)).any (·.1) = false := by rfl)
    (ht : eval (.Call (.Attribute o m apos) (e :: es) [] pos) X.env = (do
      let ov ← eval o X.env
      standAt apos.atName
      let (f, first) ← holding [ov] (getMethod ov m pl)
      callWith pos f first (backTo pos (starEach (e :: es) X.env)) (backToKw pos (keywordEach [] X.env))) := by rfl) :
    PE X (.Call (.Attribute o m apos) (e :: es) [] pos) (tMeth C m sp [] E to ta) := by
  obtain ⟨f, fd, hm, F, hb, _⟩ := G
  exact pe_meth ho c hm F hr hb .nil hx ha hst hpl ht
/-- .. the defaults filling up -/
theorem pe_md {pl : Sem Bool} (ho : PE X o to) (c : Cls X.K C) (G : MOK X.prog X.w X.K X.mg X.base CX k C m ps dvs sp) (hr : Room k X.A) (hx : Passes CX X E) (ha : PA X (e :: es) ta)
    (hst : starEach (e :: es) X.env = (false, eval e X.env) :: starEach es X.env := by rfl) (hpl : (backTo pos (starEach es X.env)).any (·.1) = false := by rfl)
    (ht : eval (.Call (.Attribute o m apos) (e :: es) [] pos) X.env = (do
      let ov ← eval o X.env
      standAt apos.atName
      let (f, first) ← holding [ov] (getMethod ov m pl)
      callWith pos f first (backTo pos (starEach (e :: es) X.env)) (backToKw pos (keywordEach [] X.env))) := by rfl) :
    PE X (.Call (.Attribute o m apos) (e :: es) [] pos) (tMeth C m sp dvs E to ta) := by
  obtain ⟨f, fd, hm, F, _, ds, hv, hb⟩ := G
  exact pe_meth ho c hm F hr hb hv hx ha hst hpl ht
theorem pe_m0 {pl : Sem Bool} (ho : PE X o to) (c : Cls X.K C) (G : MOK X.prog X.w X.K X.mg X.base CX k C m ps dvs sp) (hr : Room k X.A) (hx : Passes CX X E)
    (ht : eval (.Call (.Attribute o m apos) [] [] pos) X.env = (do
      let ov ← eval o X.env
      standAt apos.atName
      let (f, first) ← holding [ov] (getMethod ov m pl)
      callWith pos f first (backTo pos (starEach [] X.env)) (backToKw pos (keywordEach [] X.env))) := by rfl) :
    PE X (.Call (.Attribute o m apos) [] [] pos) (tMeth C m sp [] E to tNil) := by
  obtain ⟨f, fd, hm, F, hb, _⟩ := G
  exact pe_meth0 ho c hm F hr hb .nil hx ht
/-- C(e, ..), the defaults filling up -/
theorem pe_mkd (G : MkOK X.prog X.w X.K X.mg X.base CX k x C ps dvs sp) (hr : Room (k + 1) X.A) (hx : Passes CX X E) (ha : PA X (e :: es) ta) (hg : Gl X x := by rfl) (hd : (x == ("__debug__" : Str)) = false := by decide)
    (he : starEach (e :: es) X.env = (false, eval e X.env) :: starEach es X.env := by rfl) (hpl : (backTo pos (starEach es X.env)).any (·.1) = false := by rfl) :
    PE X (.Call (.Name x p) (e :: es) [] pos) (tMake C sp dvs E ta) := by
  obtain ⟨f, fd, M, hm, F, _, ds, hv, hb⟩ := G
  exact pe_make M F hr hg hm hb hv hx ha hd he hpl
theorem pe_mk (G : MkOK X.prog X.w X.K X.mg X.base CX k x C ps dvs sp) (hr : Room (k + 1) X.A) (hx : Passes CX X E) (ha : PA X (e :: es) ta) (hg : Gl X x := by rfl) (hd : (x == ("__debug__" : Str)) = false := by decide)
    (he : starEach (e :: es) X.env = (false, eval e X.env) :: starEach es X.env := by rfl) (hpl : (backTo pos (starEach es X.env)).any (·.1) = false := by rfl) :
    PE X (.Call (.Name x p) (e :: es) [] pos) (tMake C sp [] E ta) := by
  obtain ⟨f, fd, M, hm, F, hb, _⟩ := G
  exact pe_make M F hr hg hm hb .nil hx ha hd he hpl
/-! ### a method called with keywords -/
/-- how it binds with the keywords ks: all parameters are given, in their order -/
def KwIn (K : PySem.W.Frag) (C : Addr) (m q : Str) (st : Stmt) (ps : List Str) (dvs : List V) (n : Nat) (ks : List Str) : Prop :=
  ∃ (f : Addr) (fd : FuncData), Meth K C m f ∧ FunD K m q (defArgs st) (defBody st) (defScope st) dvs [] f fd ∧ KBn K fd ps n ks (fun us ws => us ++ ws) (fun vs zs => vs ++ zs)
def KOK (P : Program) (w : World) (K : PySem.W.Frag) (mg : Str → Option Value) (base : Heap) (CX : CXT) (k : Nat) (C : Addr) (m : Str) (ps : List Str) (n : Nat) (ks : List Str) (sp : Sp) : Prop :=
  ∃ (f : Addr) (fd : FuncData), Meth K C m f ∧ FnOk P w K mg base CX k f fd ps sp ∧ KBn K fd ps n ks (fun us ws => us ++ ws) (fun vs zs => vs ++ zs)
/-- the same def: one promise -/
theorem KOK.of {P : Program} {w : World} {K : PySem.W.Frag} {mg : Str → Option Value} {base : Heap} {q : Str} {st : Stmt} (D : KwIn K C m q st ps dvs n ks) (G : MOK P w K mg base CX k C m ps dvs sp)
    (same : ∀ f g fd gd, Meth K C m f → Meth K C m g → FunD K m q (defArgs st) (defBody st) (defScope st) dvs [] f fd → FnOk P w K mg base CX k g gd ps sp → FnOk P w K mg base CX k f fd ps sp) : KOK P w K mg base CX k C m ps n ks sp := by
  obtain ⟨f, fd, hm, F, hk⟩ := D
  obtain ⟨g, gd, hn, G, _⟩ := G
  exact ⟨f, fd, hm, same f g fd gd hm hn F G, hk⟩
theorem KOK.mkX {P : Program} {w : World} {K : PySem.W.Frag} {mg : Str → Option Value} {base : Heap} {q : Str} {st : Stmt} {N : List Str} (D : KwIn K C m q st ps dvs n ks) (S : FnScope N ps (defScope st)) (len : ∀ vs H Q E, sp vs H Q E → vs.length = ps.length)
    (body : ∀ (f : Addr) (cdv : Value) (A : Around) (outer : List Env) (s : Shared) (H : Hp) (vs : List V) (Q : VK) (E : XK), Room k (A.deeper (envOfC q (defScope st) s.heap.objs.size f cdv)) → sp vs H Q E →
      ∃ t, PSs (cxOf (L2.CX P w) P w K mg base N q (defScope st) f cdv A outer s H E) (defBody st) t ∧ t { nx := fun _ H' => Q .non H', rt := Q } (start N vs) H) : KOK P w K mg base (L2.CX P w) (k + 1) C m ps n ks sp := by
  obtain ⟨f, fd, hm, F, hb⟩ := D
  exact ⟨f, fd, hm, F.ok S len fun cdv A outer s H vs Q E hr h => body f cdv A outer s H vs Q E hr h, hb⟩
/-- o.m(e, .., k = v, ..): n counts the instance, too -/
def tMethN (C : Addr) (m : Str) (n nk : Nat) (sp : Sp) (E : XK) (to : TE) (ta tk : TA) : TE := fun σ H Q => to σ H fun x H1 => ∃ a dx fs, x = .ref a ∧ H1 a = some (.ins C dx fs) ∧ fs.lookup m = none ∧
  ta σ H1 fun vs H2 => tk σ H2 fun zs H3 => vs.length + 1 = n ∧ zs.length = nk ∧ sp (x :: (vs ++ zs)) H3 Q E
theorem pe_mk_kw {pl : Sem Bool} (ho : PE X o to) (c : Cls X.K C) (G : KOK X.prog X.w X.K X.mg X.base CX k C m ps n ks sp) (hr : Room k X.A) (hx : Passes CX X E) (ha : PA X (e :: es) ta) (hkw : PK X kws tk)
    (hkp : ∀ f, Meth X.K C m f → PySem.W.keepIn X.K (.ref f) = true)
    (hall : (backToKw pos (keywordEach kws X.env)).all (·.1.isSome) = true := by rfl) (hks : (backToKw pos (keywordEach kws X.env)).filterMap (·.1) = ks := by rfl)
    (hst : starEach (e :: es) X.env = (false, eval e X.env) :: starEach es X.env := by rfl)
    (hpl : ((backTo pos (starEach (e :: es) X.env)).any (·.1) || (backToKw pos (keywordEach kws X.env)).any (·.1.isNone)) = false := by rfl)
    (ht : eval (.Call (.Attribute o m apos) (e :: es) kws pos) X.env = (do
      let ov ← eval o X.env
      standAt apos.atName
      let (f, first) ← holding [ov] (getMethod ov m pl)
      callWith pos f first (backTo pos (starEach (e :: es) X.env)) (backToKw pos (keywordEach kws X.env))) := by rfl) :
    PE X (.Call (.Attribute o m apos) (e :: es) kws pos) (tMethN C m n ks.length sp E to ta tk) := by
  obtain ⟨f, fd, hm, F, hb⟩ := G
  refine ⟨fun pins s σ H Q I h => ?_⟩
  refine PySem.W.methodCall_KW (pl := pl) (thn (ho.run pins s σ H _ I h) fun u s1 ⟨x, H1, I1, rx, a, dx, fs, ex, ea, l, q⟩ => ?_) ht
  subst ex
  obtain rfl : u = Value.ref a := rx
  refine getmeth_ok I1 ea c hm l ?_
  refine PySem.W.callWith_KW (first := [.ref a]) (h₀ := X.base) I.ok.mod.kin hm.kp hall (thn (ha.run pos pins s1 σ H1 _ I1 q) fun us s2 ⟨vs, H2, I2, r, q2⟩ => ?_) hpl hst
  refine thn (hkw.run pos pins s2 σ H2 _ I2 q2) fun ws s3 ⟨zs, H3, I3, rz, l1, l2, q3⟩ => ⟨I3.kIn, ?_⟩
  rw [hks]
  exact run_fnN (us := .ref a :: us) (vs := .ref a :: vs) F hr hb hx I3 (.cons rfl r) rz (by simpa using l1) l2 q3
/-- binding of a positional default by its keyword -/
theorem FunD.kbinds1 {K : PySem.W.Frag} {x q : Str} {params : Arguments} {body : List Stmt} {scope : Scope} {kws : List (Str × V)} {f : Addr} {fd : FuncData} (F : FunD K x q params body scope dvs kws f fd) (n : Nat) (ks : List Str) (hd : dvs ≠ [])
    (h : ∀ (T : Addr) (kV doc pm : Value) (an : Option Addr) (cdv ct : Value) (us its ws : List Value), us.length = n → its.length = dvs.length → ws.length = ks.length →
      ∃ k, bindArgs (PySem.W.fnOf x q params body scope (.ref T) kV doc pm an cdv ct) ⟨us, ks.zip ws⟩ = seqItems? (.ref T) >>= k ∧ k (some its.toArray) = pure (ps.zip (us ++ ws))) :
    KBn K fd ps n ks (fun us ws => us ++ ws) (fun vs zs => vs ++ zs) := by
  obtain ⟨oc, od, dV, kV, doc, pm, an, cdv, ct, osl, rfl, lk, hcd, hD, hK⟩ := F.ex
  rcases hD with ⟨e, _⟩ | ⟨_, T, o, its, m, rfl, lT, oT, rT⟩
  · exact absurd e hd
  · refine ⟨fun s us ws X l1 l2 => ?_, fun r1 r2 => r1.append r2⟩
    obtain ⟨k, e1, e2⟩ := h T kV doc pm an cdv ct us its ws l1 rT.length.symm l2
    refine BindsTo.of_looks fun M => ?_
    rw [e1]
    exact looks_items X lT oT (.of_pure e2)
end
/-! ### own exceptions with two fields -/
def spIni2 (C : Addr) (f g : Str) : Sp := sp3 fun x v y H Q _ => ∃ a, x = .ref a ∧ H a = some (exo a C none) ∧ ∀ dx H', H dx = none → dx ≠ a → H' a = some (exo a C (some dx)) → H' dx = some (exd dx [(g, y), (f, v)]) → (∀ b, b ≠ a → b ≠ dx → H' b = H b) → Q .non H'
def OKx2 (P : Program) (w : World) (K : PySem.W.Frag) (mg : Str → Option Value) (base : Heap) (x f g : Str) (C : Addr) : Prop :=
  mg x = some (.ref C) ∧ OexC K C ∧ ∃ (fI : Addr) (fd : FuncData), PySem.W.findIn K (.ref C) "__init__" = some (some (.ref fI)) ∧ PySem.W.typeIn K (.ref fI) = some (.type "function") ∧
    FnOk P w K mg base CX0 1 fI fd ["self", f, g] (spIni2 C f g) ∧ Binds K fd ["self", f, g] []
theorem ini_ok2 {P : Program} {w : World} {K : PySem.W.Frag} {mg : Str → Option Value} {base : Heap} {C fI : Addr} {f g q : Str} {st : Stmt} {fd : FuncData} (F : Fun K "__init__" q st fI fd) (S : FnScope ["self", f, g] ["self", f, g] (defScope st))
    (ox : OexC K C) (noF : PySem.W.findIn K (.ref C) f = some none) (noG : PySem.W.findIn K (.ref C) g = some none)
    (hb : ∀ (cdv : Value) (A : Around) (outer : List Env) (s : Shared) (H : Hp) (E : XK), PSs (cxOf CX0 P w K mg base ["self", f, g] q (defScope st) fI cdv A outer s H E).nox (defBody st) (tSeq (tOst K f (tVar 0) (tVar 1)) (tOst K g (tVar 0) (tVar 2)))) :
    FnOk P w K mg base CX0 1 fI fd ["self", f, g] (spIni2 C f g) := by
  refine F.ok S (fun vs H Q E h => len3 vs H Q E h) fun cdv A outer s H vs Q E hr h => ⟨_, hb cdv A outer s H E, ?_⟩
  obtain ⟨x, v, y, rfl, a, rfl, ha, q⟩ := h
  refine ⟨v, rfl, .ref a, rfl, a, C, rfl, ox, noF, .inl ⟨ha, fun dx n ne => ?_⟩⟩
  refine ⟨y, rfl, .ref a, rfl, a, C, rfl, ox, noG, .inr ⟨dx, _, upd_same, by rw [upd_ne ne, upd_same], by show 1 ≤ 900; decide, ?_⟩⟩
  refine q dx _ n ne (by rw [upd_ne ne.symm, upd_same]) upd_same fun b h1 h2 => by rw [upd_ne h2, upd_ne h1, upd_ne h2]
/-- C(e, ..): an error whose dict, new, holds the two fields, the later one first -/
def tMkE2 (C : Addr) (f g : Str) (ta : TA) : L2.St → Hp → XK → Prop := fun σ H Q => ta σ H fun vs H1 => ∃ v y, vs = [v, y] ∧ ∀ d, H1 d = none → Q (.ref C) (some d) (upd H1 d (.xd [(g, y), (f, v)]))
theorem pmk_E2 {X : Cx} {x f g : Str} {C : Addr} {e : Expr} {es : List Expr} {ta : TA} {p pos : PySem.Pos} {k : Nat} (G : OKx2 X.prog X.w X.K X.mg X.base x f g C) (hr : Room (k + 2) X.A) (ha : PA X (e :: es) ta) (hg : Gl X x := by rfl) (hdb : (x == ("__debug__" : Str)) = false := by decide)
    (he : starEach (e :: es) X.env = (false, eval e X.env) :: starEach es X.env := by rfl) (hpl : (backTo pos (starEach es X.env)).any (·.1) = false := by rfl) :
    PMk X (.Call (.Name x p) (e :: es) [] pos) (tMkE2 C f g ta) := by
  obtain ⟨hm, ox, fI, fd, iC, tI, F, hb⟩ := G
  intro pins s σ H Q I h
  refine pmk_oex (k := 1) (dvs := []) ox iC tI F (hr.mono (by omega)) hb .nil pass0 hg hm (pa_mono ha) hdb he hpl pins s σ H Q I ⟨_, h, fun vs H1 hq => ?_⟩
  obtain ⟨v, y, rfl, q⟩ := hq
  refine ⟨by show 2 ≤ 1000; omega, fun a na => ⟨.ref a, v, y, rfl, a, rfl, upd_same, fun dx H' nd ne h1 h2 h3 => ⟨rfl, dx, [(g, y), (f, v)], h1, h2, ?_, ?_⟩⟩⟩
  · rw [upd_ne ne] at nd; exact nd
  · have n2 : H1 dx = none := by rw [upd_ne ne] at nd; exact nd
    have e1 : upd (del H' a) dx (.xd [(g, y), (f, v)]) = upd H1 dx (.xd [(g, y), (f, v)]) := by
      funext b
      by_cases hb : b = dx
      · rw [hb, upd_same, upd_same]
      · rw [upd_ne hb, upd_ne hb]
        by_cases ha : b = a
        · rw [ha, del_same, na]
        · rw [del_ne ha, h3 b ha hb, upd_ne ha]
    rw [e1]
    exact q dx n2
/-- the wish for an error of the class at C whose dict, new, holds fs -/
def Rzf (E : XK) (H : Hp) (C : Addr) (fs : List (Str × V)) : Prop := ∀ d H', H d = none → Same H H' → H' d = some (.xd fs) → E (.ref C) (some d) H'
theorem Rzf.mono {E : XK} {H H1 : Hp} {C : Addr} {fs : List (Str × V)} (h : Rzf E H C fs) (s : Same H H1) : Rzf E H1 C fs := fun d H' n s' e => h d H' (s.free n) (s.trans s') e
theorem Rzf.at {E : XK} {H : Hp} {C : Addr} {fs : List (Str × V)} (h : Rzf E H C fs) {d : Addr} (n : H d = none) : E (.ref C) (some d) (upd H d (.xd fs)) :=
  h d _ n (fun b o e => by rw [upd_ne (ne_of_none e n)]; exact e) upd_same
section
variable {σ : L2.St} {H : Hp} {Q : XK} {C : Addr} {f g : Str} {ta : TA} {v y : V} {P : V → V → Prop}
theorem i_mkE2 (q : ta σ H fun vs H1 => ∃ v y, vs = [v, y] ∧ ∀ d, H1 d = none → Q (.ref C) (some d) (upd H1 d (.xd [(g, y), (f, v)]))) : tMkE2 C f g ta σ H Q := q
theorem i_ex2 (q : P v y) : ∃ a b, [v, y] = [a, b] ∧ P a b := ⟨v, y, rfl, q⟩
end
/-! ### what remains of GOK -/
theorem GOK.mk {P : Program} {w : World} {K : PySem.W.Frag} {mg : Str → Option Value} {base : Heap} {x : Str} {st : Stmt} {N ps : List Str} {k : Nat} {sp : Sp} (D : DefIn K mg x st ps) (S : FnScope N ps (defScope st)) (len : ∀ vs H Q E, sp vs H Q E → vs.length = ps.length)
    (body : ∀ (f : Addr) (cdv : Value) (A : Around) (outer : List Env) (s : Shared) (H : Hp) (vs : List V) (Q : VK) (E : XK), A.guards = some [] → Room k (A.deeper (envOfC x (defScope st) s.heap.objs.size f cdv)) → sp vs H Q E →
      ∃ t, PSs (cxOf CX0 P w K mg base N x (defScope st) f cdv A outer s H E).nox (defBody st) t ∧ t { nx := fun _ H' => Q .non H', rt := Q } (start N vs) H) : GOK P w K mg base CX0 (k + 1) x ps sp := by
  obtain ⟨f, fd, F, hm, hb⟩ := D
  refine ⟨f, fd, gok_mk F S len fun cdv A outer s H vs Q E hg hr h => ?_, hm, F.kp, hb⟩
  obtain ⟨t, z, e⟩ := body f cdv A outer s H vs Q E hg hr h
  exact ⟨t, z.nox, e⟩
end Fg
/-! Data in the heap: what a value is, and what a step adds to what is known. -/
namespace Fg
open PySem PySem.Spec PyProof.Rows L2
abbrev dS (l : List Nat) : PyData := .str ⟨l.toArray⟩
mutual
inductive At (H : Hp) : V → PyData → Prop
  | non : At H .non .none
  | bl (b : Bool) : At H (.bl b) (.bool b)
  | int (i : Int) : At H (.int i) (.int i)
  | str (l : List Nat) : l.length ≤ 10000 → At H (S l) (dS l)
  | lst {a : Addr} {xs : List V} {ds : List PyData} : H a = some (.lst xs) → xs.length ≤ 10000 → AtAll H xs ds → At H (.ref a) (.list ds)
  | tup {a : Addr} {xs : List V} {ds : List PyData} : H a = some (.tup xs) → xs.length ≤ 10000 → AtAll H xs ds → At H (.ref a) (.tuple ds)
  | dct {a : Addr} : H a = some (.dK []) → At H (.ref a) (.dict [])
inductive AtAll (H : Hp) : List V → List PyData → Prop
  | nil : AtAll H [] []
  | cons {v : V} {vs : List V} {d : PyData} {ds : List PyData} : At H v d → AtAll H vs ds → AtAll H (v :: vs) (d :: ds)
end
section
variable {H H' : Hp}
mutual
theorem At.mono (s : Same H H') : ∀ (d : PyData) (v : V), At H v d → At H' v d
  | .none, _, h => by cases h; exact .non
  | .bool b, _, h => by cases h; exact .bl b
  | .int i, _, h => by cases h; exact .int i
  | .str x, _, h => by
    cases h with
    | str l hl => exact .str l hl
  | .list ds, _, h => by
    cases h with
    | lst e l a => exact .lst (s _ _ e) l (AtAll.mono s ds _ a)
  | .tuple ds, _, h => by
    cases h with
    | tup e l a => exact .tup (s _ _ e) l (AtAll.mono s ds _ a)
  | .dict kvs, _, h => by
    cases h with
    | dct e => exact .dct (s _ _ e)
theorem AtAll.mono (s : Same H H') : ∀ (ds : List PyData) (vs : List V), AtAll H vs ds → AtAll H' vs ds
  | [], _, h => by cases h; exact .nil
  | d :: ds, _, h => by
    cases h with
    | cons h1 h2 => exact .cons (At.mono s d _ h1) (AtAll.mono s ds _ h2)
end
theorem At.same {v : V} {d : PyData} (h : At H v d) (s : Same H H') : At H' v d := At.mono s d v h
theorem AtAll.same {vs : List V} {ds : List PyData} (h : AtAll H vs ds) (s : Same H H') : AtAll H' vs ds := AtAll.mono s ds vs h
mutual
theorem At.dp (K : PySem.W.Frag) : ∀ (d : PyData) (v : V), At H v d → d.hasDict = false → Dp K H v d
  | .none, _, h, _ => by cases h; exact .non
  | .bool b, _, h, _ => by cases h; exact .bl b
  | .int i, _, h, _ => by cases h; exact .int i
  | .str x, _, h, _ => by cases h; exact .str _
  | .list ds, _, h, n => by
    cases h with
    | lst e l a => exact .lst (.inl (.inl e)) (AtAll.dp K ds _ a n)
  | .tuple ds, _, h, n => by
    cases h with
    | tup e l a => exact .tup (.inl (.inl e)) (AtAll.dp K ds _ a n)
  | .dict kvs, _, h, n => by cases n
theorem AtAll.dp (K : PySem.W.Frag) : ∀ (ds : List PyData) (vs : List V), AtAll H vs ds → PyData.hasDictAll ds = false → DpAll K H vs ds
  | [], _, h, _ => by cases h; exact .nil
  | d :: ds, _, h, n => by
    cases h with
    | cons h1 h2 =>
      have n' : (d.hasDict || PyData.hasDictAll ds) = false := n
      rw [Bool.or_eq_false_iff] at n'
      exact .cons (At.dp K d _ h1 n'.1) (AtAll.dp K ds _ h2 n'.2)
end
theorem AtAll.len : ∀ {vs : List V} {ds : List PyData}, AtAll H vs ds → vs.length = ds.length
  | _, _, .nil => rfl
  | _, _, .cons _ r => congrArg Nat.succ r.len
theorem AtAll.get : ∀ {vs : List V} {ds : List PyData}, AtAll H vs ds → ∀ {i : Nat} {v : V}, vs[i]? = some v → ∃ d, ds[i]? = some d ∧ At H v d
  | _, _, .nil, _, _, e => by simp at e
  | _, _, .cons h r, 0, _, e => by
    cases (show some _ = some _ from e)
    exact ⟨_, rfl, h⟩
  | _, _, .cons h r, i + 1, v, e => r.get (i := i) e
theorem AtAll.at : ∀ {vs : List V} {ds : List PyData}, AtAll H vs ds → ∀ {i : Nat} {d : PyData}, ds[i]? = some d → ∃ v, vs[i]? = some v ∧ At H v d
  | _, _, .nil, _, _, e => by simp at e
  | _, _, .cons h r, 0, _, e => by
    cases (show some _ = some _ from e)
    exact ⟨_, rfl, h⟩
  | _, _, .cons h r, i + 1, v, e => r.at (i := i) e
theorem AtAll.app : ∀ {vs ws : List V} {ds es : List PyData}, AtAll H vs ds → AtAll H ws es → AtAll H (vs ++ ws) (ds ++ es)
  | _, _, _, _, .nil, r => r
  | _, _, _, _, .cons h t, r => .cons h (t.app r)
theorem AtAll.one {v : V} {d : PyData} (h : At H v d) : AtAll H [v] [d] := .cons h .nil
theorem AtAll.take : ∀ {vs : List V} {ds : List PyData}, AtAll H vs ds → ∀ (n : Nat), AtAll H (vs.take n) (ds.take n)
  | _, _, .nil, n => by simp; exact .nil
  | _, _, .cons h r, 0 => .nil
  | _, _, .cons h r, n + 1 => .cons h (r.take n)
theorem AtAll.drop : ∀ {vs : List V} {ds : List PyData}, AtAll H vs ds → ∀ (n : Nat), AtAll H (vs.drop n) (ds.drop n)
  | _, _, .nil, n => by simp; exact .nil
  | _, _, .cons h r, 0 => .cons h r
  | _, _, .cons h r, n + 1 => r.drop n
theorem AtAll.map {α : Type} {f : α → V} {g : α → PyData} (h : ∀ x, At H (f x) (g x)) : ∀ l : List α, AtAll H (l.map f) (l.map g)
  | [] => .nil
  | x :: r => .cons (h x) (AtAll.map h r)
theorem AtAll.rep {v : V} {d : PyData} (h : At H v d) : ∀ n : Nat, AtAll H (List.replicate n v) (List.replicate n d)
  | 0 => .nil
  | n + 1 => .cons h (AtAll.rep h n)
end
/-! ### A: what is known, G: all that stands -/
structure Ext (A G A' G' : Hp) : Prop where
  aa : Same A A'
  ag : Same A' G'
  gg : Same G G'
  nw : ∀ b, A b = none → A' b ≠ none → G b = none
section
variable {A G A1 G1 A2 G2 H : Hp} {p : Addr} {o o' : HO} {v : V} {d : PyData}
theorem Ext.refl (s : Same A G) : Ext A G A G := ⟨fun _ _ e => e, s, fun _ _ e => e, fun b h1 h2 => absurd h1 h2⟩
theorem Ext.trans (x : Ext A G A1 G1) (y : Ext A1 G1 A2 G2) : Ext A G A2 G2 := by
  refine ⟨x.aa.trans y.aa, y.ag, x.gg.trans y.gg, fun b h1 h2 => ?_⟩
  by_cases h : A1 b = none
  · exact x.gg.free (y.nw b h h2)
  · exact x.nw b h1 h
/-- something new, known -/
theorem Ext.new (x : Ext A G A1 G1) (n : G1 p = none) : Ext A G (upd A1 p o) (upd G1 p o) := by
  have na : A1 p = none := x.ag.free n
  refine ⟨Same.upd x.aa (x.gg.trans (fun _ _ e => e) |>.free n |> fun z => ?_), fun b u e => ?_, Same.upd x.gg (x.gg.free n), fun b h1 h2 => ?_⟩
  · by_cases h : A p = none
    · exact h
    · exact absurd na (by
        intro z
        cases e : A p with
        | none => exact h e
        | some u => rw [x.aa _ _ e] at z; cases z)
  · by_cases hb : b = p
    · rw [hb, upd_same] at e
      rw [hb, upd_same]; exact e
    · rw [upd_ne hb] at e
      rw [upd_ne hb]; exact x.ag _ _ e
  · by_cases hb : b = p
    · rw [hb]; exact x.gg.free n
    · rw [upd_ne hb] at h2
      exact x.nw b h1 h2
/-- something new, hidden -/
theorem Ext.hid (x : Ext A G A1 G1) (n : G1 p = none) : Ext A G A1 (upd G1 p o) :=
  ⟨x.aa, x.ag.trans (same_upd n), x.gg.trans (same_upd n), x.nw⟩
/-- what is hidden, and was not there at first, changes -/
theorem Ext.put (x : Ext A G A1 G1) (n : G p = none) (na : A1 p = none) : Ext A G A1 (upd G1 p o) :=
  ⟨x.aa, fun b u e => by rw [upd_ne (ne_of_none e na)]; exact x.ag _ _ e, Same.upd x.gg n, x.nw⟩
/-- what was hidden is known -/
theorem Ext.show (x : Ext A G A1 G1) (n : G p = none) (sa : Same A G) (e : G1 p = some o) : Ext A G (upd A1 p o) G1 := by
  have na : A p = none := sa.free n
  refine ⟨Same.upd x.aa na, fun b u e1 => ?_, x.gg, fun b h1 h2 => ?_⟩
  · by_cases hb : b = p
    · rw [hb, upd_same] at e1
      rw [hb, e]; exact e1
    · rw [upd_ne hb] at e1
      exact x.ag _ _ e1
  · by_cases hb : b = p
    · rw [hb]; exact n
    · rw [upd_ne hb] at h2
      exact x.nw b h1 h2
/-- what is hidden stays hidden -/
theorem Ext.free (x : Ext A G A1 G1) (n : A p = none) (e : G p ≠ none) : A1 p = none := by
  by_cases h : A1 p = none
  · exact h
  · exact absurd (x.nw p n h) e
theorem Ext.up (x : Ext A G A1 G1) (h : At A1 v d) : At G1 v d := h.same x.ag
theorem Ext.old (x : Ext A G A1 G1) (h : At A v d) : At A1 v d := h.same x.aa
end
/-! ### comprehensions whose elements are data -/
section
variable {K : PySem.W.Frag} {σ : L2.St} {A G : Hp} {Q : VK} {te tl : TE} {tt : TT} {ta : TA} {j : Nat} {a : Addr} {xs : List V} {vs : List Nat}
/-- behind i turns: the list at Dl, hidden, holds data -/
def Cw (A G : Hp) (Dl : Addr) (f : Nat → PyData) (i : Nat) (G1 : Hp) : Prop := G Dl = none ∧ ∃ A1 l, Ext A G A1 G1 ∧ A1 Dl = none ∧ G1 Dl = some (.lst l) ∧ AtAll A1 l ((List.range i).map f)
theorem cw_start (s : Same A G) {Dl : Addr} {f : Nat → PyData} (n : G Dl = none) : Cw A G Dl f 0 (upd G Dl (.lst [])) :=
  ⟨n, A, [], (Ext.refl s).hid n, s.free n, upd_same, .nil⟩
theorem cw_turn {Dl : Addr} {f : Nat → PyData} {i : Nat} {G1 : Hp} {σ2 : L2.St} (w : Cw A G Dl f i G1) (hi : i < 10000)
    (he : ∀ A1 G1, Ext A G A1 G1 → ∀ QV : VK, (∀ A2 G2 v, Ext A1 G1 A2 G2 → At A2 v (f i) → QV v G2) → te σ2 G1 QV) :
    tYes σ2 G1 fun b H3 => if b = true then te σ2 H3 fun y H4 => ∃ acc, H4 Dl = some (.lst acc) ∧ acc.length < sizeLine ∧ Cw A G Dl f (i + 1) (upd H4 Dl (.lst (acc ++ [y]))) else Cw A G Dl f (i + 1) H3 := by
  obtain ⟨n, A1, l, x, na, e, al⟩ := w
  refine i_yes ?_
  rw [if_pos rfl]
  refine he A1 G1 x _ fun A2 G2 v y hv => ?_
  have na2 : A2 Dl = none := y.free na (by rw [e]; simp)
  have ll : l.length = i := by rw [al.len]; simp
  refine ⟨l, y.gg _ _ e, Nat.lt_of_le_of_lt (Nat.le_of_eq ll) (Nat.lt_trans hi (by decide)), n, A2, l ++ [v], (x.trans y).put n na2, na2, upd_same, ?_⟩
  rw [List.range_succ, List.map_append]
  exact (al.same y.aa).app (.one hv)
theorem cw_end {Dl : Addr} {f : Nat → PyData} {n : Nat} {G1 : Hp} (w : Cw A G Dl f n G1) (sa : Same A G) (hn : n ≤ 10000) : ∃ A1, Ext A G A1 G1 ∧ At A1 (.ref Dl) (.list ((List.range n).map f)) ∧ ∃ l, G1 Dl = some (.lst l) ∧ A1 Dl = some (.lst l) ∧ AtAll A1 l ((List.range n).map f) ∧ l.length = n := by
  obtain ⟨h, A1, l, x, na, e, al⟩ := w
  have ll : l.length = n := by rw [al.len]; simp
  have al2 := al.same (same_upd (o := .lst l) na)
  exact ⟨_, x.show h sa e, .lst upd_same (by omega) al2, l, e, upd_same, al2, ll⟩
/-- [te for j in a list] -/
theorem c_lstD {ds : List PyData} (sa : Same A G) (ha : ∀ R : VK, R (.ref a) G → tl σ G R) (hx : SqL K G a xs) (hd : AtAll A xs ds) (hn : xs.length ≤ 10000) (f : PyData → PyData) (hw : ∀ x, wipe ((wipe σ vs).set j (some x)) vs = wipe σ vs)
    (he : ∀ x d A1 G1, d ∈ ds → At A1 x d → Ext A G A1 G1 → ∀ QV : VK, (∀ A2 G2 v, Ext A1 G1 A2 G2 → At A2 v (f d) → QV v G2) → te ((wipe σ vs).set j (some x)) G1 QV)
    (q : ∀ Dl A1 G1 l, Ext A G A1 G1 → G1 Dl = some (.lst l) → A1 Dl = some (.lst l) → AtAll A1 l (ds.map f) → l.length = ds.length → Q (.ref Dl) G1) : tLc (iAny K tl) (gName j) tYes te vs σ G Q := by
  have hl := hd.len
  have e1 : (List.range ds.length).map (fun i => f (ds.getD i .none)) = ds.map f := by
    refine List.ext_getElem? fun i => ?_
    rw [List.getElem?_map, List.getElem?_map]
    by_cases h : i < ds.length
    · rw [List.getElem?_range h, Option.map_some, List.getD_eq_getElem?_getD, List.getElem?_eq_getElem h]
      rfl
    · rw [List.getElem?_eq_none (by simpa using h), List.getElem?_eq_none (by omega)]
      rfl
  refine ha _ (.inl ⟨a, xs, rfl, hx, fun Dl nD => ?_⟩)
  refine lc_list (xs := xs) (Cw A G Dl fun i => f (ds.getD i .none)) (cw_start sa nD) (fun i H' hi p => ?_) (fun i x H' hi p => ?_) (fun H' p => ?_)
  · obtain ⟨_, _, _, x, _⟩ := p
    exact x.gg.seq hx
  · have hlt := (List.getElem?_eq_some_iff.mp hi).1
    obtain ⟨d, hd1, hd2⟩ := hd.get hi
    refine ⟨hw _, cw_turn p (by omega) fun A1 G1 y QV k => he x d A1 G1 (List.mem_of_getElem? hd1) (hd2.same y.aa) y QV fun A2 G2 v z hv => k A2 G2 v z ?_⟩
    rw [List.getD_eq_getElem?_getD, hd1]
    exact hv
  · rw [hl] at p
    obtain ⟨A1, y, _, l, e, ea, al, ll⟩ := cw_end p sa (by omega)
    rw [e1] at al
    exact q Dl A1 H' l y e ea al ll
/-- [te for j in a tuple] -/
theorem c_tupD {ds : List PyData} (sa : Same A G) (ha : ∀ R : VK, R (.ref a) G → tl σ G R) (hx : SqT K G a xs) (hd : AtAll A xs ds) (hn : xs.length ≤ 10000) (f : PyData → PyData) (hw : ∀ x, wipe ((wipe σ vs).set j (some x)) vs = wipe σ vs)
    (he : ∀ x d A1 G1, d ∈ ds → At A1 x d → Ext A G A1 G1 → ∀ QV : VK, (∀ A2 G2 v, Ext A1 G1 A2 G2 → At A2 v (f d) → QV v G2) → te ((wipe σ vs).set j (some x)) G1 QV)
    (q : ∀ Dl A1 G1 l, Ext A G A1 G1 → G1 Dl = some (.lst l) → A1 Dl = some (.lst l) → AtAll A1 l (ds.map f) → l.length = ds.length → Q (.ref Dl) G1) : tLc (iAny K tl) (gName j) tYes te vs σ G Q := by
  have hl := hd.len
  have e1 : (List.range ds.length).map (fun i => f (ds.getD i .none)) = ds.map f := by
    refine List.ext_getElem? fun i => ?_
    rw [List.getElem?_map, List.getElem?_map]
    by_cases h : i < ds.length
    · rw [List.getElem?_range h, Option.map_some, List.getD_eq_getElem?_getD, List.getElem?_eq_getElem h]
      rfl
    · rw [List.getElem?_eq_none (by simpa using h), List.getElem?_eq_none (by omega)]
      rfl
  refine ha _ (.inr (.inl ⟨a, xs, rfl, hx, fun Dl nD => ?_⟩))
  refine lc_tup (xs := xs) (Cw A G Dl fun i => f (ds.getD i .none)) (cw_start sa nD) (fun i H' hi p => ?_) (fun i x H' hi p => ?_) (fun H' p => ?_)
  · obtain ⟨_, _, _, x, _⟩ := p
    exact Same.tup x.gg hx
  · have hlt := (List.getElem?_eq_some_iff.mp hi).1
    obtain ⟨d, hd1, hd2⟩ := hd.get hi
    refine ⟨hw _, cw_turn p (by omega) fun A1 G1 y QV k => he x d A1 G1 (List.mem_of_getElem? hd1) (hd2.same y.aa) y QV fun A2 G2 v z hv => k A2 G2 v z ?_⟩
    rw [List.getD_eq_getElem?_getD, hd1]
    exact hv
  · rw [hl] at p
    obtain ⟨A1, y, _, l, e, ea, al, ll⟩ := cw_end p sa (by omega)
    rw [e1] at al
    exact q Dl A1 H' l y e ea al ll
end
/-! ### rules by name -/
section
variable {X : Cx} (K : PySem.W.Frag) {e o value : Expr} {es : List Expr} {te to tv : TE} {ta : TA} {f : Str} {p pos apos cpos tpos pos' : PySem.Pos}
theorem peFld (he : PE X e te) (h : X.K = K := by rfl) (hb : attributeBase e f X.env (eval e X.env) = eval e X.env := by rfl) : PE X (.Attribute e f pos) (tFld K te f) := h ▸ pe_fld he hb
theorem psFld (ho : PE X o to) (hv : PE X value tv) (h : X.K = K := by rfl) (hs : swapsWith value (some (.Attribute o f pos')) pos.line X.env = pure false := by rfl) : PS X (.Assign [.Attribute o f pos'] value pos) (sFld K to tv f) := h ▸ ps_fld ho hv hs
theorem psFldAug {op : Operator} {rd : V → V → Hp → VK → Prop} (ho : PE X o to) (hv : PE X value tv) (hop : InOp X op rd) (h : X.K = K := by rfl) : PS X (.AugAssign (.Attribute o f tpos) op value pos) (sFldAug K to tv rd f) := h ▸ ps_fldaug ho hv hop
def rSplit : V → List V → Hp → VK → Prop := fun x xs H Q => ∃ a b, x = .str a ∧ xs = [.str b] ∧ (b.length == 0) = false ∧ a.length + 2 ≤ sizeLine ∧ rNewStrs (Txt.split a b) H Q
def tSpl (K : PySem.W.Frag) (to : TE) (t : TA) : TE := tBM K "str" rSplit to t
theorem peSplit (ho : PE X o to) (ha : PA X (e :: es) ta) (h : X.K = K := by rfl) (hbase : attributeBase o "split" X.env (eval o X.env) = eval o X.env := by rfl)
    (hfew : ((backTo cpos (starEach (e :: es) X.env)).all (fun x => !x.1) && (backToKw cpos (keywordEach [] X.env)).all (fun x => x.1.isSome)
      && decide ((e :: es).length + ([] : List Keyword).length + (if ([] : List Keyword).isEmpty then 0 else 1) < 30)) = true := by rfl)
    (hline : (apos.endLine == cpos.line) = true := by rfl) (hs : starEach (e :: es) X.env = (false, eval e X.env) :: starEach es X.env := by rfl) (hplain : (backTo cpos (starEach es X.env)).any (·.1) = false := by rfl) :
    PE X (.Call (.Attribute o "split" apos) (e :: es) [] cpos) (tSpl K to ta) := h ▸ pe_bm PySem.F.plainAttrs_str PySem.F.slot_str_split PySem.F.type_str_split mt_split ho ha hbase hfew hline hs hplain
theorem cIsiT (h : X.K = K := by rfl) : CallR X (.builtin "isinstance") (rIsiT K) := h ▸ call_isiT
theorem opInD (hu : X.A.units + 65 < cLine) (h : X.K = K := by rfl) : OpR X (compareOp .In) (rInD K) := h ▸ op_inD hu
theorem opNotInD (hu : X.A.units + 65 < cLine) (h : X.K = K := by rfl) : OpR X (compareOp .NotIn) (rNotInD K) := h ▸ op_notInD hu
theorem cReprD (hgu : X.A.guards = some []) (hu : X.A.units + 64 < cLine) (h : X.K = K := by rfl) : CallR X (.builtin "repr") (rReprD K) := h ▸ call_reprD hgu hu
end
/-! ### readings -/
section
variable {K : PySem.W.Frag} {σ : L2.St} {H : Hp} {Q : VK} {Qs : L2.St → Hp → Prop} {D : Ends} {te to tv : TE} {ta : TA} {a C dx : Addr} {fs : List (Str × V)} {f m : Str} {v y : V} {xs : List V} {sp : Sp} {dvs : List V} {E : XK} {z w : Int}
theorem i_fld {P : V → Prop} (h : H a = some (.ins C dx fs)) (c : Cls K C) (n : NoAttr K C f) (l : fs.lookup f = some v) (q : P v) : ∃ a' C dx fs v, V.ref a = .ref a' ∧ H a' = some (.ins C dx fs) ∧ Cls K C ∧ NoAttr K C f ∧ fs.lookup f = some v ∧ P v :=
  ⟨a, C, dx, fs, v, rfl, h, c, n, l, q⟩
theorem i_tfld (q : te σ H fun x H1 => ∃ a C dx fs v, x = .ref a ∧ H1 a = some (.ins C dx fs) ∧ Cls K C ∧ NoAttr K C f ∧ fs.lookup f = some v ∧ Q v H1) : tFld K te f σ H Q := q
theorem i_sfld (q : tv σ H fun y H1 => to σ H1 fun x H2 => ∃ a C dx fs, x = .ref a ∧ H2 a = some (.ins C dx fs) ∧ Cls K C ∧ NoAttr K C f ∧ fs.length < 1000 ∧ D.nx σ (upd H2 a (.ins C dx (putF f y fs)))) : sFld K to tv f D σ H := q
theorem i_put {P : Addr → Addr → Addr → List (Str × V) → Prop} (h : H a = some (.ins C dx fs)) (c : Cls K C) (n : NoAttr K C f) (l : fs.length < 1000) (q : P a C dx fs) :
    ∃ a' C dx fs, V.ref a = .ref a' ∧ H a' = some (.ins C dx fs) ∧ Cls K C ∧ NoAttr K C f ∧ fs.length < 1000 ∧ P a' C dx fs := ⟨a, C, dx, fs, rfl, h, c, n, l, q⟩
theorem i_meth (q : to σ H fun x H1 => ∃ a dx fs, x = .ref a ∧ H1 a = some (.ins C dx fs) ∧ fs.lookup m = none ∧ ta σ H1 fun vs H2 => sp (x :: (vs ++ dvs)) H2 Q E) : tMeth C m sp dvs E to ta σ H Q := q
theorem i_self {P : Prop} (h : H a = some (.ins C dx fs)) (l : fs.lookup m = none) (q : P) : ∃ a' dx fs, V.ref a = .ref a' ∧ H a' = some (.ins C dx fs) ∧ fs.lookup m = none ∧ P := ⟨a, dx, fs, rfl, h, l, q⟩
theorem i_make (q : ta σ H fun vs H1 => ∀ x dx, H1 x = none → H1 dx = none → dx ≠ x → sp (.ref x :: (vs ++ dvs)) (upd (upd H1 dx (.own x)) x (.ins C dx [])) (fun v H2 => v = .non ∧ Q (.ref x) H2) E) : tMake C sp dvs E ta σ H Q := q
theorem i_spl (q : to σ H fun x H1 => tyV K "str" x H1 ∧ ta σ H1 fun xs H2 => rSplit x xs H2 Q) : tSpl K to ta σ H Q := q
/-- the kind of a datum -/
def kindD : PyData → String
  | .none => "NoneType" | .bool _ => "bool" | .int _ => "int" | .str _ => "str" | .list _ => "list" | .tuple _ => "tuple" | .dict _ => "dict"
theorem At.ty {d : PyData} (K : PySem.W.Frag) (h : At H v d) : TyX K H v (.type (kindD d)) := by
  cases h with
  | non => exact .base .non
  | bl b => exact .base (.bl b)
  | int i => exact .base (.int i)
  | str l _ => exact .base (.str _)
  | lst e _ _ => exact .base (.lst e)
  | tup e _ _ => exact .base (.tup e)
  | dct e => exact .base (.dK e)
theorem i_isiD {d : PyData} {t : String} {b : Bool} (h : At H v d) (e : PySem.W.kitOne K (.type (kindD d)) (.type t) = some b) (q : Q (.bl b) H) : rIsi K [v, .ty t] H Q := ⟨_, _, _, _, b, rfl, .ty _, h.ty K, e, q⟩
theorem i_isiT2 {d : PyData} {t u : String} {b : Bool} {tp : Addr} (h : At H v d) (ht : H tp = some (.tup [.ty t, .ty u])) (e : PySem.W.kitAny K (.type (kindD d)) [.type t, .type u] = some b) (q : Q (.bl b) H) : rIsiT K [v, .ref tp] H Q :=
  ⟨v, tp, _, _, _, b, rfl, ht, .cons (.ty _) (.cons (.ty _) .nil), h.ty K, e, q⟩
end
theorem OK.never {P : Program} {w : World} {K : PySem.W.Frag} {mg : Str → Option Value} {base : Heap} {CX : CXT} {k : Nat} {x : Str} {st : Stmt} {ps : List Str} {dvs : List V} (D : DefD K mg x st ps dvs) : OK P w K mg base CX k x ps fun _ _ _ _ => False := by
  obtain ⟨f, fd, F, hm, hb, _⟩ := D
  exact ⟨f, fd, ⟨fun _ _ _ _ h => h.elim, fun _ _ _ _ _ _ _ _ _ _ _ _ _ h => h.elim⟩, hm, F.kp, hb⟩
theorem OK.never0 {P : Program} {w : World} {K : PySem.W.Frag} {mg : Str → Option Value} {base : Heap} {CX : CXT} {k : Nat} {x : Str} {st : Stmt} {ps : List Str} (D : DefIn K mg x st ps) : OK P w K mg base CX k x ps fun _ _ _ _ => False := by
  obtain ⟨f, fd, F, hm, hb⟩ := D
  exact ⟨f, fd, ⟨fun _ _ _ _ h => h.elim, fun _ _ _ _ _ _ _ _ _ _ _ _ _ h => h.elim⟩, hm, F.kp, hb⟩
theorem depth_mem : ∀ {ds : List PyData} {d : PyData}, d ∈ ds → d.depth ≤ PyData.depthAll ds
  | e :: r, d, h => by
    show d.depth ≤ max e.depth (PyData.depthAll r)
    rcases List.mem_cons.mp h with rfl | h
    · exact Nat.le_max_left _ _
    · exact Nat.le_trans (depth_mem h) (Nat.le_max_right _ _)
/-- lists as tuples, at all depths -/
def deepD : PyData → PyData
  | .list ds => .tuple (deepDs ds)
  | .tuple ds => .tuple (deepDs ds)
  | d => d
where deepDs : List PyData → List PyData
  | [] => []
  | d :: r => deepD d :: deepDs r
theorem deepDs_map : ∀ ds : List PyData, deepD.deepDs ds = ds.map deepD
  | [] => rfl
  | d :: r => by rw [List.map_cons, ← deepDs_map r]; rfl
/-! ### isinstance of a datum -/
def isSeqD : PyData → Bool
  | .list _ => true | .tuple _ => true | _ => false
def isTupD : PyData → Bool
  | .tuple _ => true | _ => false
def isStrD : PyData → Bool
  | .str _ => true | _ => false
def isIntD : PyData → Bool
  | .int _ => true | .bool _ => true | _ => false
def isBoolD : PyData → Bool
  | .bool _ => true | _ => false
section
variable {K : PySem.W.Frag} {H : Hp} {Q : VK} {v : V} {d : PyData} {tp : Addr}
theorem i_isiSeq (b : Bool) (h : At H v d) (ht : H tp = some (.tup [.ty "list", .ty "tuple"])) (e : isSeqD d = b) (q : Q (.bl b) H) : rIsiT K [v, .ref tp] H Q := by
  subst e
  refine i_isiT2 h ht ?_ q
  cases d <;> simp only [kindD, isSeqD] <;> first
    | exact kitAny_cons (b := true) (kit_ty (by decide +kernel)) (fun z => nomatch z) (fun _ => rfl)
    | exact kitAny_cons (b := false) (kit_ty (by decide +kernel)) (fun _ => kitAny_cons (b := true) (kit_ty (by decide +kernel)) (fun z => nomatch z) (fun _ => rfl)) (fun z => nomatch z)
    | exact kitAny_cons (b := false) (kit_ty (by decide +kernel)) (fun _ => kitAny_cons (b := false) (kit_ty (by decide +kernel)) (fun _ => rfl) (fun z => nomatch z)) (fun z => nomatch z)
theorem i_isiTup (b : Bool) (h : At H v d) (e : isTupD d = b) (q : Q (.bl b) H) : rIsi K [v, .ty "tuple"] H Q := by
  subst e
  refine i_isiD h (kit_ty ?_) q
  cases d <;> (simp only [kindD, isTupD] ; decide +kernel)
theorem i_isiStr (b : Bool) (h : At H v d) (e : isStrD d = b) (q : Q (.bl b) H) : rIsi K [v, .ty "str"] H Q := by
  subst e
  refine i_isiD h (kit_ty ?_) q
  cases d <;> (simp only [kindD, isStrD] ; decide +kernel)
theorem i_isiInt (b : Bool) (h : At H v d) (e : isIntD d = b) (q : Q (.bl b) H) : rIsi K [v, .ty "int"] H Q := by
  subst e
  refine i_isiD h (kit_ty ?_) q
  cases d <;> (simp only [kindD, isIntD] ; decide +kernel)
theorem i_isiBool (b : Bool) (h : At H v d) (e : isBoolD d = b) (q : Q (.bl b) H) : rIsi K [v, .ty "bool"] H Q := by
  subst e
  refine i_isiD h (kit_ty ?_) q
  cases d <;> (simp only [kindD, isBoolD] ; decide +kernel)
theorem At.tupled {ds : List PyData} (h : At H v (.tuple ds)) : ∃ a xs, v = .ref a ∧ H a = some (.tup xs) ∧ xs.length ≤ 10000 ∧ AtAll H xs ds := by
  cases h with
  | tup e l a => exact ⟨_, _, rfl, e, l, a⟩
theorem At.listed {ds : List PyData} (h : At H v (.list ds)) : ∃ a xs, v = .ref a ∧ H a = some (.lst xs) ∧ xs.length ≤ 10000 ∧ AtAll H xs ds := by
  cases h with
  | lst e l a => exact ⟨_, _, rfl, e, l, a⟩
theorem At.strd {x : Str} (h : At H v (.str x)) : v = .str x := by
  cases h; rfl
theorem At.strl {x : Str} (h : At H v (.str x)) : ∃ l : List Nat, v = S l ∧ x = ⟨l.toArray⟩ ∧ l.length ≤ 10000 := by
  cases h with
  | str l hl => exact ⟨l, rfl, rfl, hl⟩
theorem At.intd {i : Int} (h : At H v (.int i)) : v = .int i := by
  cases h; rfl
theorem At.mkTup {a : Addr} {xs : List V} {ds : List PyData} (e : H a = some (.tup xs)) (h : AtAll H xs ds) (l : ds.length ≤ 10000) : At H (.ref a) (.tuple ds) := .tup e (by rw [h.len]; exact l) h
theorem At.mkLst {a : Addr} {xs : List V} {ds : List PyData} (e : H a = some (.lst xs)) (h : AtAll H xs ds) (l : ds.length ≤ 10000) : At H (.ref a) (.list ds) := .lst e (by rw [h.len]; exact l) h
end
/-! ### loops over a text, over a tuple, behind i_for -/
section
variable {K : PySem.W.Frag} {σ : L2.St} {H : Hp} {D : Ends} {te : TE} {tb : TS} {g : TG} {a : Addr} {xs : List V} {z : List Nat}
theorem i_forS {A B : Prop} (Pv : Nat → L2.St → Hp → Prop) (h0 : Pv 0 σ H)
    (hs : ∀ i c σ' H', z[i]? = some c → Pv i σ' H' → g (S [c]) σ' H' fun σ2 H2 => tb { D with nx := Pv (i + 1), ct := Pv (i + 1), bk := D.nx } σ2 H2) (hd : ∀ σ' H', Pv z.length σ' H' → D.nx σ' H') :
    A ∨ B ∨ ∃ z', S z = .str z' ∧ LoopG g tb D σ (Its z') H := by
  have e : (⟨z.toArray⟩ : Str).cps.size = z.length := str_len z
  refine .inr (.inr ⟨_, rfl, for_it walk_str Pv h0 (fun _ _ _ _ _ => True.intro) (fun i x σ' H' H2 hi p y => ?_) (by rw [e]; exact hd)⟩)
  obtain ⟨rfl, c, hc, rfl⟩ := y
  exact hs i c σ' _ (by simpa using hc) p
theorem i_forT {A B : Prop} (hx : SqT K H a xs) (Pv : Nat → L2.St → Hp → Prop) (h0 : Pv 0 σ H) (hl : ∀ i σ' H', i ≤ xs.length → Pv i σ' H' → SqT K H' a xs)
    (hs : ∀ i x σ' H', xs[i]? = some x → Pv i σ' H' → g x σ' H' fun σ2 H2 => tb { D with nx := Pv (i + 1), ct := Pv (i + 1), bk := D.nx } σ2 H2) (hd : ∀ σ' H', Pv xs.length σ' H' → D.nx σ' H') :
    A ∨ (∃ a' xs', V.ref a = .ref a' ∧ SqT K H a' xs' ∧ LoopG g tb D σ (Itt K a') H) ∨ B := .inr (.inl ⟨a, xs, rfl, hx, for_tup Pv h0 hl hs hd⟩)
end
/-! ### calls whose defaults fill up; methods -/
section
variable {σ : L2.St} {H : Hp} {Q : VK} {E : XK} {tl : TA} {x y z u : V} {p1 : P1} {p2 : P2} {p3 : P3} {p4 : P4}
theorem i_callD {sp : Sp} {dvs : List V} (q : tl σ H fun vs H1 => sp (vs ++ dvs) H1 Q E) : tCall sp dvs E tl σ H Q := q
theorem i_spD2 (q : p2 x y H Q E) : sp2 p2 ([x] ++ [y]) H Q E := ⟨x, y, rfl, q⟩
theorem i_spM1 (q : p1 x H Q E) : sp1 p1 (x :: ([] ++ [])) H Q E := ⟨x, rfl, q⟩
theorem i_spM2 (q : p2 x y H Q E) : sp2 p2 (x :: ([y] ++ [])) H Q E := ⟨x, y, rfl, q⟩
theorem i_spM3 (q : p3 x y z H Q E) : sp3 p3 (x :: ([y, z] ++ [])) H Q E := ⟨x, y, z, rfl, q⟩
theorem i_spM4 (q : p4 x y z u H Q E) : sp4 p4 (x :: ([y, z, u] ++ [])) H Q E := ⟨x, y, z, u, rfl, q⟩
theorem i_spM3d (q : p3 x y z H Q E) : sp3 p3 (x :: ([y] ++ [z])) H Q E := ⟨x, y, z, rfl, q⟩
end
end Fg
/-! enumerate(a tuple) -/
namespace Fg
open PySem PySem.Spec PyProof.Rows L2
open AutoSeq1 (wpAny_loadPart')
theorem meets_enumT (l : Addr) (items : Array Value) (n : Nat) (dct : Option Addr) (sl : Array (Option Value)) :
    Meets (Builtin.«enumerate.__new__» ⟨[.type "enumerate", .ref l], []⟩) (fun _ R s => s.heap.get? l = some { cls := .type "tuple", dict := dct, data := .seq items n, slots := sl } ∧
      R (.ok (.ret (.ref (s.heap.push { cls := .type "tuple_iterator", data := .fields #[.ref l, .int 0 0] }).objs.size)))
        { s with heap := (s.heap.push { cls := .type "tuple_iterator", data := .fields #[.ref l, .int 0 0] }).push { cls := .type "enumerate", data := .fields #[.none, .bool false, .ref s.heap.objs.size, rawInt 0, .none, .none] } }) :=
  .of_wp fun prog w A R s h => by
    obtain ⟨hp, g, d, tk, os⟩ := s; obtain ⟨hl, h⟩ := h
    have hsub := sub_enumerate
    have hL : Heap.IsTuple (Shared.heap ⟨hp, g, d, tk, os⟩) l items := ⟨_, hl, rfl, n, rfl⟩
    wp_walk using wpAny_loadPart' hl
    refine wpAny_stack_any fun st => wpAny_pure ?_
    split
    · rename_i c _ _ _ _ _
      cases (c == Value.type "enumerate")
      · wp_walk using wpAny_loadPart' hl, wpAny_pyIter_tuple hL
        exact ⟨_, rfl, h⟩
      · wp_walk using wpAny_loadPart' hl, wpAny_pyIter_tuple hL
        exact ⟨_, rfl, h⟩
    · wp_walk using wpAny_loadPart' hl, wpAny_pyIter_tuple hL
      exact ⟨_, rfl, h⟩
section
variable {prog : Program} {w : World} {A : Around} {E : Value → Shared → Prop} {s : Shared}
theorem call_enumT {l : Addr} {items : Array Value} {Q : Value → Shared → Prop} (hL : s.heap.IsTuple l items)
    (h : ∀ h', IsEnum h' (s.heap.objs.size + 1) s.heap.objs.size 0 .none → h'.IsTupleIter s.heap.objs.size l 0 → h'.objs.size = s.heap.objs.size + 2 →
      (∀ b o, s.heap.get? b = some o → h'.get? b = some o) → Q (.ref (s.heap.objs.size + 1)) { s with heap := h' }) :
    wpAny (model prog w) A (call (.type "enumerate") [.ref l]) Q E s := by
  obtain ⟨⟨c, dct, dt, sl⟩, hl, hc, n, hd⟩ := hL
  replace hc : c = .type "tuple" := hc
  replace hd : dt = .seq items n := hd
  subst hc hd
  refine callType_new F.called_enumerate (by decide) (F.typeCall_enumerate_1 _) (F.newCall_enumerate_1 _) (fun obj => F.args_object_init_2 obj _) F.entry_enumerate_new
    (meets_enumT l items n dct sl) ⟨hl, ?_⟩
  have hz : (s.heap.push { cls := .type "tuple_iterator", data := .fields #[.ref l, .int 0 0] }).objs.size = s.heap.objs.size + 1 := Heap.size_push ..
  show _ ∧ _
  rw [hz]
  have he : IsEnum ((s.heap.push { cls := .type "tuple_iterator", data := .fields #[.ref l, .int 0 0] }).push
      { cls := .type "enumerate", data := .fields #[.none, .bool false, .ref s.heap.objs.size, rawInt 0, .none, .none] }) (s.heap.objs.size + 1) s.heap.objs.size 0 .none := by
    have := Heap.get?_push_size (s.heap.push { cls := .type "tuple_iterator", data := .fields #[.ref l, .int 0 0] })
      (o := { cls := .type "enumerate", data := .fields #[.none, .bool false, .ref s.heap.objs.size, rawInt 0, .none, .none] }) rfl
    rw [hz] at this; exact this
  refine ⟨⟨_, he, rfl⟩, h _ he ⟨_, Heap.get?_push_of_some _ (Heap.get?_push_size _ rfl), rfl, rfl⟩ (by rw [Heap.size_push, hz]) fun b o x => Heap.get?_push_of_some _ (Heap.get?_push_of_some _ x)⟩
end
/-- the tuple at a, each item in a new pair with its place -/
def Itet (K : PySem.W.Frag) (a : Addr) : It :=
  ⟨fun i H => ∃ (xs : List V) (x : V), SqT K H a xs ∧ xs[i]? = some x, fun i H v H' => ∃ T x, v = .ref T ∧ H T = none ∧ H' = upd H T (.tup [.int (i : Nat), x]) ∧ ∀ xs, SqT K H a xs → xs[i]? = some x, fun i H => ∃ xs : List V, SqT K H a xs ∧ i = xs.length⟩
theorem turn_enumT {P : Program} {w : World} {K : PySem.W.Frag} {elts : List Expr} {kk : Nat} {tpos : PySem.Pos} (a e it : Addr) :
    Turn P w K (.Tuple elts kk tpos) (Itet K a) [e, it] e (fun i h => (∃ old, IsEnum h e it ((i : Nat) : Int) old) ∧ h.IsTupleIter it a i ∧ e ≠ it) where
  mem := by simp
  obj := fun i h st b hb => by
    obtain ⟨⟨old, he⟩, ⟨o, ho, hc, hd⟩, _⟩ := st
    have e' : b = e ∨ b = it := by simpa using hb
    rcases e' with z | z
    · rw [z]; exact ⟨_, he, fun v q => nomatch q⟩
    · rw [z]; exact ⟨o, ho, fun v q => by rw [hd] at q; cases q⟩
  keep := fun i h h' st k => let ⟨⟨old, he⟩, hi, hne⟩ := st; ⟨⟨old, k e (by simp) _ he⟩, hi.at fun o q => k it (by simp) o q, hne⟩
  item := by
    intro X hP hw hK hc i pins s σ H E I hf st hg
    subst hP hw hK
    obtain ⟨⟨old, he⟩, hit, hne⟩ := st
    obtain ⟨xs, x, hq, hx⟩ := hg
    obtain ⟨its, rv, p, hz⟩ := I.tuple hq
    have pt : s.heap.IsTuple a its.toArray := p
    obtain ⟨u, hu, ru⟩ := rv.get hx
    have hel : e < s.heap.objs.size := Heap.lt_size he
    have hil : it < s.heap.objs.size := by obtain ⟨_, q, _⟩ := hit; exact Heap.lt_size q
    have hai : a ≠ it := fun z => by
      obtain ⟨o1, q1, c1, _⟩ := hit
      obtain ⟨o2, q2, c2, _⟩ := pt
      rw [z, q1] at q2
      cases q2
      rw [c1] at c2
      exact absurd c2 (by simp)
    have hae : e ≠ a := fun z => by
      obtain ⟨o2, q2, c2, _⟩ := pt
      rw [← z] at q2
      have q1 : s.heap.get? e = some _ := he
      rw [q1] at q2
      cases q2
      exact absurd c2 (by simp)
    have hsz : its.toArray.size = xs.length := by rw [List.size_toArray]; exact rv.length.symm
    have D := Draws.tuple (prog := X.prog) (w := X.w) (A := X.A.in1) (I.ok.hd hc) it a hai its.toArray
    refine wpAny_pyNext_enum_itemC D he ⟨hit, pt⟩ (by rw [hsz]; exact (List.getElem?_eq_some_iff.mp hx).1) hne (by simp [hne, hae]) fun y h' tk hy ho hS' hT hsz2 hk => ?_
    have yu : y = u := by
      have e1 : its.toArray[i]? = some u := by simpa using hu
      rw [e1] at hy
      exact (Option.some.inj hy).symm
    subst yu
    refine ⟨_, rfl, wpAny_letOwnedTupleGo_enum (s := { s with heap := h', toks := tk + 1 }) ho fun h2 he2 sb => ?_⟩
    have T2 : h2.get? s.heap.objs.size = some { cls := .type "tuple", data := .seq #[.int i tk, y] } := (sb.2 _ (Nat.ne_of_gt hel)).trans hT
    have new : ObjOk X.prog X.w (upd H s.heap.objs.size (.tup [.int (i : Nat), x])) h2 s.heap.objs.size (.tup [.int (i : Nat), x]) :=
      ⟨by show 2 ≤ sizeLine; decide, [.int i tk, y], .cons ⟨_, rfl⟩ (.cons ru .nil), ⟨_, T2, rfl, _, rfl⟩⟩
    have J : Inv X pins σ (upd H s.heap.objs.size (.tup [.int (i : Nat), x])) { s with heap := h2, toks := tk + 1 } :=
      I.turnedNew (ch := [e, it]) (fun b ob hb q => (sb.2 b (fun z => hb (by simp [z]))).trans (hk b ob (fun z => hb (by simp [z])) (fun z => hb (by simp [z])) q)) hf (Nat.le_refl _) new
    refine ⟨.ref s.heap.objs.size, _, J, rfl, ⟨_, x, rfl, I.hok.fresh (Nat.le_refl _), rfl, fun ys hy => by rw [I.tuple_inj hy hq]; exact hx⟩, ⟨⟨y, ?_⟩, ?_, hne⟩, fun b hb => ?_⟩
    · have e1 : ((i + 1 : Nat) : Int) = (i : Int) + 1 := by omega
      rw [e1]; exact he2
    · exact hS'.1.at fun o q => (sb.2 it (Ne.symm hne)).trans q
    · have hb' : b < s.heap.objs.size := by
        have e' : b = e ∨ b = it := by simpa using hb
        rcases e' with z | z
        · rw [z]; exact hel
        · rw [z]; exact hil
      rw [upd_ne (Nat.ne_of_lt hb')]
      exact (hf b hb).1
  done := by
    intro X hP hw hK hc i pins s σ H E I hf st hg
    subst hP hw hK
    obtain ⟨⟨old, he⟩, hit, hne⟩ := st
    obtain ⟨xs, hq, hx⟩ := hg
    obtain ⟨its, rv, p, hz⟩ := I.tuple hq
    have pt : s.heap.IsTuple a its.toArray := p
    have hai : a ≠ it := fun z => by
      obtain ⟨o1, q1, c1, _⟩ := hit
      obtain ⟨o2, q2, c2, _⟩ := pt
      rw [z, q1] at q2
      cases q2
      rw [c1] at c2
      exact absurd c2 (by simp)
    obtain ⟨f0, f1, f2, f3, f4, f5⟩ := hf it (by simp)
    have hsz : its.toArray.size = i := by rw [List.size_toArray, hx]; exact rv.length.symm
    have D := Draws.tuple (prog := X.prog) (w := X.w) (A := X.A.in1) (I.ok.hd hc) it a hai its.toArray
    exact wpAny_pyNext_enum_endD D he ⟨hsz ▸ hit, pt⟩ fun h' eb => ⟨rfl, I.turned (t' := s.toks) (fun b o hb q => eb b o hb q) f0 f1 f3 f4 f5⟩
  self := fun A i s Q E st h => let ⟨⟨_, he⟩, _⟩ := st; wpAny_pyIter_enum he h
def iEnumT (K : PySem.W.Frag) (ta : TA) : TI := fun σ H R => ta σ H fun vs H1 => ∃ a xs, vs = [.ref a] ∧ SqT K H1 a xs ∧ R (Itet K a) H1
theorem pi_enumT {X : Cx} {e : Expr} {ta : TA} {p pos tpos : PySem.Pos} {elts : List Expr} {kk : Nat} (hg : Gl X "enumerate") (hm : X.mg "enumerate" = none) (ha : PA X [e] ta) (hs : starEach [e] X.env = [(false, eval e X.env)] := by rfl) :
    PI X (.Tuple elts kk tpos) (.Call (.Name "enumerate" p) [e] [] pos) (iEnumT X.K ta) := by
  refine ⟨fun pins s σ H R I h => Call_ (ld_blt I hg hm boot_enumerate (PyProof.Rows.callWith_type1 (thn (ha.run pos pins s σ H _ I h) fun us s1 ⟨vs, H1, J, r1, q1⟩ => ?_) hs rfl))⟩
  have far : ∀ b ∈ [s1.heap.objs.size + 1, s1.heap.objs.size], s1.heap.objs.size ≤ b := fun b hb => by
    rcases List.mem_cons.mp hb with rfl | hb
    · exact Nat.le_succ _
    · rw [List.mem_singleton.mp hb]; exact Nat.le_refl _
  obtain ⟨a, xs, rfl, hq, q⟩ := q1
  cases r1 with
  | cons r rr =>
    cases rr
    cases r
    obtain ⟨its, rv, pl, hz⟩ := J.tuple hq
    refine call_enumT (show s1.heap.IsTuple a its.toArray from pl) fun h' hE hit hsz hk => wpAny_pyIter_enum hE ?_
    have J2 : Inv X pins σ H1 { s1 with heap := h' } := J.kept (t' := s1.toks) hk
    exact ⟨_, _, _, _, H1, rfl, J2, turn_enumT a (s1.heap.objs.size + 1) s1.heap.objs.size, ⟨⟨.none, hE⟩, hit, Nat.succ_ne_self _⟩, fun b hb => J.fpOk (far b hb) (J.hok.fresh (far b hb)), q⟩
theorem piEnumT (K : PySem.W.Frag) {X : Cx} {e : Expr} {ta : TA} {p pos tpos : PySem.Pos} {elts : List Expr} {kk : Nat} (hg : Gl X "enumerate") (hm : X.mg "enumerate" = none) (ha : PA X [e] ta) (h : X.K = K := by rfl) (hs : starEach [e] X.env = [(false, eval e X.env)] := by rfl) :
    PI X (.Tuple elts kk tpos) (.Call (.Name "enumerate" p) [e] [] pos) (iEnumT K ta) := h ▸ pi_enumT hg hm ha hs
/-- for i, x in enumerate(tuple) -/
theorem f_enumT {K : PySem.W.Frag} {σ : L2.St} {H : Hp} {D : Ends} {ta : TA} {tb : TS} {a : Addr} {xs : List V} {i1 i2 : Nat} (ha : ∀ R : List V → Hp → Prop, R [.ref a] H → ta σ H R) (hx : SqT K H a xs) (Pv : Nat → L2.St → Hp → Prop) (h0 : Pv 0 σ H)
    (hl : ∀ i σ' H', i ≤ xs.length → Pv i σ' H' → H' a = H a)
    (hs : ∀ i x σ' H' T, xs[i]? = some x → Pv i σ' H' → H' T = none → tb { D with nx := Pv (i + 1), ct := Pv (i + 1), bk := D.nx } ((σ'.set i1 (some (.int (i : Int)))).set i2 (some x)) (upd H' T (.tup [.int (i : Int), x]))) (hd : ∀ σ' H', Pv xs.length σ' H' → D.nx σ' H') :
    tFor (iEnumT K ta) (gTup K 2 (gCons (gName i1) (gCons (gName i2) gNil))) tb D σ H := by
  refine ha _ ⟨a, xs, rfl, hx, ?_⟩
  have sq : ∀ H', H' a = H a → SqT K H' a xs := fun H' e => by
    rcases hx with (h | ⟨o, h⟩) | h
    · exact .inl (.inl (e.trans h))
    · exact .inl (.inr ⟨o, e.trans h⟩)
    · exact .inr h
  have w : Walk (Itet K a) xs.length (fun H' => H' a = H a) (fun i Ha v Hb => ∃ T x, v = .ref T ∧ Ha T = none ∧ Hb = upd Ha T (.tup [.int (i : Nat), x]) ∧ xs[i]? = some x) := by
    refine ⟨fun i H' hi e => ⟨xs, xs[i], sq H' e, by simp [hi]⟩, fun H' e => ⟨xs, sq H' e, rfl⟩, fun i H' x H2 hi e y => ?_⟩
    obtain ⟨T, x, h1, h2, h3, h4⟩ := y
    exact ⟨T, x, h1, h2, h3, h4 xs (sq H' e)⟩
  refine for_it w Pv h0 (fun i σ' H' hi p => hl i σ' H' hi p) (fun i x σ' H' H2 hi p y => ?_) hd
  obtain ⟨T, c, rfl, nT, rfl, hc⟩ := y
  exact ⟨T, _, rfl, SqT.of upd_same, rfl, _, _, rfl, _, _, rfl, rfl, hs i c σ' H' T hc p nT⟩
end Fg
/-! replace, where the token of what is replaced is known: it was just cut out of a written text. -/
namespace Fg
open PySem PySem.Spec PyProof.Rows L2
theorem u65 {k : Nat} {A : Around} (r : Room k A) : A.units + 65 < cLine := by have := r.un; omega
section
variable {X : Cx} {pins : List (Addr × Obj)} {σ : L2.St} {H : Hp} {s : Shared}
/-- a store into a local name, the value kept in sight -/
theorem store_raw {M : Model} {A : Around} {E : Value → Shared → Prop} {i : Nat} {x : Str} {v : V} {u : Value} {Q : Unit → Shared → Prop} (I : Inv X pins σ H s) (hN : X.N.Nodup) (hi : X.N[i]? = some x) (hk : X.env.scope.names.lookup x = some .local) (r : RelV v u)
    (h : ∀ h' m, Inv X pins (σ.set i (some v)) H { s with heap := h', toks := s.toks + 1 } → h'.Ns X.env.locals m → m x = some u → Q () { s with heap := h', toks := s.toks + 1 }) : wpAny M A (storeName X.env x u) Q E s := by
  obtain ⟨m, hn, hl⟩ := id I.loc
  have hcls : (X.env.scope.kind == .class || (X.env.scope.kind == .module && X.env.locals != X.env.globals)) = false := by rw [I.ok.kind]; rfl
  have hiσ : i < σ.length := by rw [I.len]; exact (List.getElem?_eq_some_iff.mp hi).1
  have cne := I.cne
  have tracked : ∀ {a : Addr} {h' : Heap}, (∃ o, s.heap.get? a = some o ∧ H a = none) → Heap.SameBut a s.heap h' → HOk X.prog X.w H h' := fun {a h'} ha hs b ob e => by
    obtain ⟨_, _, hfree⟩ := ha
    refine (I.hok b ob e).stay (fun c w' hc q => (hs.2 c ?_).trans q) (fun _ q => q) fun _ _ q => q
    rintro rfl
    rcases hc with rfl | hc
    · rw [hfree] at e; cases e
    · rw [hfree] at hc; cases hc
  refine wpAny_storeName_local hk hn (fun h' hn' hs => ?_) hcls
  obtain ⟨oL, _, _, hoL, _⟩ := id hn
  refine h h' _ ⟨I.ok, I.os, I.bare, ⟨fun b o e n hb hx => ?_, fun b o e n hb hx => ?_, I.base.free, fun b o e hx => ?_, I.base.tups, I.base.frzs, I.base.tbls⟩, ⟨_, hn', fun j y v' e1 e2 e3 => ?_⟩, fun y c e => ?_, I.free, I.freeC, fun p hp => ?_, tracked ⟨oL, hoL, I.free⟩ hs, by simpa using I.len⟩ hn' (by simp)
  · exact (hs.2 b (Nat.ne_of_lt (Nat.lt_of_lt_of_le (Heap.lt_size e) I.ok.above))).trans (I.base.keep b o e n hb hx)
  · obtain ⟨sl, e1⟩ := I.base.slot b o e n hb hx
    exact ⟨sl, (hs.2 b (Nat.ne_of_lt (Nat.lt_of_lt_of_le (Heap.lt_size e) I.ok.above))).trans e1⟩
  · obtain ⟨o', e1⟩ := I.base.there b o e hx
    exact ⟨o', (hs.2 b (Nat.ne_of_lt (Nat.lt_of_lt_of_le (Heap.lt_size e) I.ok.above))).trans e1⟩
  · by_cases hj : j = i
    · subst hj
      rw [hi] at e1; cases e1
      rw [List.getElem?_set_self hiσ] at e2
      cases e2
      exact ⟨u, r, .inl ⟨hk, by simp⟩⟩
    · rw [List.getElem?_set_ne (Ne.symm hj)] at e2
      obtain ⟨u', r', q⟩ := hl j y v' e1 e2 e3
      refine ⟨u', r', ?_⟩
      rcases q with ⟨k, e⟩ | ⟨k, c, e, z⟩
      · refine .inl ⟨k, ?_⟩
        have : y ≠ x := fun e => hj (nodup_ix hN e1 (e ▸ hi))
        simp [this, e]
      · exact .inr ⟨k, c, e, z.sameBut hs (cne y c e)⟩
  · obtain ⟨w', z⟩ := I.cell y c e
    exact ⟨w', z.sameBut hs (cne y c e)⟩
  · obtain ⟨e, n, ne, nf, d⟩ := I.pin p hp
    exact ⟨(hs.2 p.1 ne).trans e, n, ne, nf, d⟩
end
/-- x = 'a'[e1]; y = 'b'.replace(x, 'c')[e2] -/
def tLitRep (i j : Nat) (a b c : Str) (t1 t2 : TE) (u : TS) : TS := fun D σ H => t1 σ H fun z1 H1 => ∃ (k1 : Int) (g1 : Nat), z1 = .int k1 ∧ a.length ≤ sizeLine ∧ atI a.cps.toList k1 = some g1 ∧ ((⟨#[g1]⟩ : Str) == c) = false ∧
  b.length + (b.length + 1) * c.length ≤ 16777216 ∧ t2 (σ.set i (some (.str ⟨#[g1]⟩))) H1 fun z2 H2 => ∃ (k2 : Int) (g2 : Nat), z2 = .int k2 ∧ (Txt.replace b ⟨#[g1]⟩ c).length ≤ sizeLine ∧
    atI (Txt.replace b ⟨#[g1]⟩ c).cps.toList k2 = some g2 ∧ u D ((σ.set i (some (.str ⟨#[g1]⟩))).set j (some (.str ⟨#[g2]⟩))) H2
theorem item_str_raw {prog : Program} {w : World} {A : Around} {E : Value → Shared → Prop} {s : Shared} {value slice : Expr} {z : Str} {i : Int} {c : Nat} {t u : Tok} {Q : Value → Shared → Prop} (hz : z.length ≤ sizeLine) (he : atI z.cps.toList i = some c) (hs : PlainIx slice)
    (h : Q (.str ⟨#[c]⟩ s.toks) { s with toks := s.toks + 1 }) : wpAny (model prog w) A (subscriptTail value slice (.str z t) (.int i u)) Q E s := by
  obtain ⟨j, h1, h2, h3, h4, h5⟩ := atI_get he
  have hl : z.cps.toList.length = z.length := by simp [Str.length]
  rw [hl] at h1 h4 h5
  have hn := line63
  exact tail_any (typeIs_str s z t) slot_str_getitem.lookup (P.getItem_str (c := c) (by
    have e1 : decide (i < -(2 ^ 63 : Int)) = false := decide_eq_false (by omega)
    have e2 : decide (i ≥ 2 ^ 63) = false := decide_eq_false (by omega)
    rw [e1, e2, Bool.or_false]) (by rw [h1]; simpa using h2) h) (hs _ _)
theorem pss_litrep {X : Cx} {i j : Nat} {x y a b c : Str} {e1 e2 : Expr} {t1 t2 : TE} {rest : List Stmt} {u : TS} {k0 k1 k2 : Nat} {p1 p2 p3 p4 q1 q2 q3 q4 q5 q6 q7 q8 : PySem.Pos} (hN : X.N.Nodup) (hi : X.N[i]? = some x) (hj : X.N[j]? = some y)
    (hx : X.env.scope.names.lookup x = some .local) (hy : Loc X.env.scope y) (h1 : PE X e1 t1) (h2 : PE X e2 t2) (pl1 : PlainIx e1) (pl2 : PlainIx e2) (hr : PSs X rest u)
    (hs1 : swapsWith (.Subscript (.Constant (.str a) k0 p2) e1 p3) (some (.Name x p1)) p4.line X.env = pure false := by rfl)
    (hs2 : swapsWith (.Subscript (.Call (.Attribute (.Constant (.str b) k1 q2) "replace" q3) [.Name x q4, .Constant (.str c) k2 q5] [] q6) e2 q7) (some (.Name y q1)) q8.line X.env = pure false := by rfl)
    (hf : X.fn y = true ∨ X.env.scope.names.lookup y = some .local := by first | exact .inl rfl | exact .inr rfl | assumption)
    (hst : starEach [.Name x q4, .Constant (.str c) k2 q5] X.env = [(false, eval (.Name x q4) X.env), (false, eval (.Constant (.str c) k2 q5) X.env)] := by rfl)
    (hbase : attributeBase (.Constant (.str b) k1 q2) "replace" X.env (eval (.Constant (.str b) k1 q2) X.env) = eval (.Constant (.str b) k1 q2) X.env := by rfl) (hline : (q3.endLine == q6.line) = true := by rfl)
    (hd : (x == ("__debug__" : Str)) = false := by decide) :
    PSs X (.Assign [.Name x p1] (.Subscript (.Constant (.str a) k0 p2) e1 p3) p4 ::
      .Assign [.Name y q1] (.Subscript (.Call (.Attribute (.Constant (.str b) k1 q2) "replace" q3) [.Name x q4, .Constant (.str c) k2 q5] [] q6) e2 q7) q8 :: rest) (tLitRep i j a b c t1 t2 u) := by
  refine ⟨fun pins s σ H D I h => ?_⟩
  refine wpAny_execs_cons (wpAny_Assign_Name (Subscript_ (Calls.Constant_str ?_)) hs1)
  refine wpAny_mono (PySem.wpAny_toks (h1.run pins _ σ H _ (I.tok (s.toks + 1)) h)) (fun v1 s1 q => ?_) fun _ _ z => z.2
  obtain ⟨hk1, z1, H1, I1, r1, n1, g1, rfl, hz1, he1, hne, hb, q⟩ := q
  obtain ⟨w1, rfl⟩ := r1
  have hk1' : s.toks + 1 ≤ s1.toks := hk1
  refine item_str_raw hz1 he1 pl1 ?_
  refine store_raw (v := .str ⟨#[g1]⟩) (I1.tok (s1.toks + 1)) hN hi hx ⟨_, rfl⟩ fun h' m I2 hn hm => ?_
  refine wpAny_execs_cons (wpAny_Assign_Name (Subscript_ ?_) hs2)
  refine PySem.Call_method2 hbase hst hline (Calls.Constant_str ?_)
  refine ⟨"str", _, F.plainAttrs_str, F.slot_str_replace, F.type_str_replace, typeIs_str _ _ _, (fun _ e => nomatch e), Calls.callWith_builtin rfl (Calls.evalArgs_plain (Calls.spliced_cons ?_))⟩
  refine wpAny_Name (wpAny_loadName_local I.ok.kind hx hn hm ?_) hd
  refine Calls.spliced_cons (Calls.Constant_str (Calls.spliced_nil ?_))
  refine PySem.SC.replace (by show s1.toks ≠ 0; omega) (by show s1.toks + 1 + 1 + 1 ≠ 0; omega) (by show s1.toks ≠ s1.toks + 1 + 1 + 1; omega) hne hb fun t' tk => ?_
  refine thn (h2.run pins _ _ H1 _ (I2.tok tk) q) fun v2 s2 ⟨z2, H2, I3, r2, n2, g2, e2', hz2, he2, q2⟩ => ?_
  subst e2'
  obtain ⟨w2, rfl⟩ := r2
  refine item_str_raw hz2 he2 pl2 ?_
  exact store_ok (v := .str ⟨#[g2]⟩) (I3.tok (s2.toks + 1)) hN hj hy ⟨_, rfl⟩ (fun s3 I4 => hr.run pins s3 _ H2 D I4 q2) hf
/-- a test on x == 6 gives out a token: behind it the body may ask for one -/
theorem ps_ifK {X : Cx} {e : Expr} {te : TE} {n : Int} {k : Nat} {a b : List Stmt} {t u : TS} {p1 p2 pos : PySem.Pos} {r : R2} (ho : OpR X (compareOp .Eq) r) (he : PE X e te) (ha : PSsT X a t) (hb : PSs X b u) :
    PS X (.If (.Compare e [.Eq] [.Constant (.int n) k p1] p2) a b pos) (tIfS (tTest (tOp r te (tC (.int n)))) t u) := by
  refine ⟨fun pins s σ H D I h => ?_⟩
  refine wpAny_If ?_
  have h' := (pt_cmpR (X := X) (pos := p2) ho he (pe_int (i := n) (j := k) (pos := p1)) (nomark _))
  refine wpAny_isTrue_Compare1 (thn (he.run pins s σ H _ I h) fun v s1 ⟨x, H1, I1, r1, q1⟩ => wpAny_Constant_int ?_) (nomark _)
  refine wpAny_mono (PySem.wpAny_toks (ho pins _ σ H1 x (.int n) v _ _ (I1.tok (s1.toks + 1)) r1 ⟨_, rfl⟩ q1)) (fun c s3 q => ?_) fun _ _ z => z.2
  obtain ⟨hk, z, H3, I3, r3, kb, e, q3⟩ := q
  subst e
  cases r3
  have hk' : s1.toks + 1 ≤ s3.toks := hk
  refine wpAny_truthy_bool ?_
  cases kb with
  | true => exact ha pins s3 σ H3 D (by omega) I3 q3
  | false => exact hb.run pins s3 σ H3 D I3 q3
/-! ### str of a text or of a small number; list(..) -/
def rStrP : RC := orC (fun xs H Q => ∃ i : Int, xs = [.int i] ∧ i.natAbs.log2 < 1920 ∧ Q (.str (toString i)) H) fun xs H Q => ∃ a, xs = [.str a] ∧ Q (.str a) H
theorem call_strP {X : Cx} : CallR X (.type "str") rStrP := orC_call call_str_int SkE.call_str_str
def rListP (K : PySem.W.Frag) : RC := fun xs H Q => ∃ p ys, xs = [.ref p] ∧ (SqL K H p ys ∨ SqT K H p ys) ∧ ∀ l, H l = none → Q (.ref l) (upd H l (.lst ys))
theorem cListP (K : PySem.W.Frag) {X : Cx} (h : X.K = K := by rfl) : CallR X (.type "list") (rListP K) := h ▸ call_list_of
/-- e.upper() -/
def tUpp (K : PySem.W.Frag) (to : TE) : TE := tBM0 K "str" (fun x xs H Q => ∃ a, x = .str a ∧ xs = [] ∧ a.length ≤ 5592405 ∧ Q (.str (Txt.upper a)) H) to
theorem peUpper (K : PySem.W.Frag) {X : Cx} {o : Expr} {to : TE} {apos cpos : PySem.Pos} (ho : PE X o to) (h : X.K = K := by rfl) (hbase : attributeBase o "upper" X.env (eval o X.env) = eval o X.env := by rfl) (hline : (apos.endLine == cpos.line) = true := by rfl) :
    PE X (.Call (.Attribute o "upper" apos) [] [] cpos) (tUpp K to) := h ▸ pe_bm0 PySem.F.plainAttrs_str PySem.F.slot_str_upper PySem.F.type_str_upper mt_upper ho hbase hline
end Fg
/-! law's own promise, where no display stands around -/
namespace Fg
open PySem PySem.Spec PyProof.Rows L2
theorem FnGOk.mk {P : Program} {w : World} {K : PySem.W.Frag} {mg : Str → Option Value} {base : Heap} {x : Str} {st : Stmt} {N ps : List Str} {k : Nat} {sp : Sp} {f : Addr} {fd : FuncData} (F : Fun K x x st f fd) (S : FnScope N ps (defScope st)) (len : ∀ vs H Q E, sp vs H Q E → vs.length = ps.length)
    (body : ∀ (cdv : Value) (A : Around) (outer : List Env) (s : Shared) (H : Hp) (vs : List V) (Q : VK) (E : XK), A.guards = some [] → Room k (A.deeper (envOfC x (defScope st) s.heap.objs.size f cdv)) → sp vs H Q E →
      ∃ t, PSs (cxOf CX0 P w K mg base N x (defScope st) f cdv A outer s H E).nox (defBody st) t ∧ t { nx := fun _ H' => Q .non H', rt := Q } (start N vs) H) : GOk P w K mg base CX0 (k + 1) f fd ps sp :=
  gok_mk F S len fun cdv A outer s H vs Q E hg hr h => let ⟨t, z, e⟩ := body cdv A outer s H vs Q E hg hr h; ⟨t, z.nox, e⟩
/-- tuples put together: what stands behind, by data -/
theorem i_catT {K : PySem.W.Frag} {H : Hp} {Q : VK} {a b : Addr} {xs ys : List V} (h1 : H a = some (.tup xs)) (h2 : H b = some (.tup ys)) (hz : xs.length + ys.length ≤ 1000)
    (q : ∀ r H', Same H H' → H' r = some (.tup (xs ++ ys)) → ((r = a ∨ r = b) ∧ H' = H ∨ H r = none ∧ H' = upd H r (.tup (xs ++ ys))) → Q (.ref r) H') : addP K (.ref a) (.ref b) H Q := by
  refine .inr (.inr (.inr ⟨a, b, xs, ys, rfl, rfl, .inl (.inl h1), .inl (.inl h2), Nat.le_trans hz (by decide), fun e => ?_, fun _ e => ?_, fun _ _ p np => ?_⟩))
  · subst e
    exact q b H (Same.refl H) h2 (.inl ⟨.inr rfl, rfl⟩)
  · subst e
    exact q a H (Same.refl H) (by rw [List.append_nil]; exact h1) (.inl ⟨.inl rfl, rfl⟩)
  · exact q p _ (same_upd np) upd_same (.inr ⟨np, rfl⟩)
/-- a part of a tuple -/
theorem i_slTup {K : PySem.W.Frag} {H : Hp} {Q : VK} {a : Addr} {xs : List V} {lo hi : Option Int} (h : H a = some (.tup xs))
    (q : ∀ r H', Same H H' → H' r = some (.tup (cutV xs lo hi)) → (r = a ∧ H' = H ∨ H r = none ∧ H' = upd H r (.tup (cutV xs lo hi))) → Q (.ref r) H') : slP K (.ref a) lo hi H Q := by
  refine .inr (.inl ⟨a, xs, rfl, .inl (.inl h), fun z => ?_, fun _ p np => ?_⟩)
  · have e : cutV xs lo hi = xs := by
      unfold cutV
      rw [z.1, z.2, List.drop_zero, Nat.sub_zero, List.take_length]
    exact q a H (Same.refl H) (by rw [e]; exact h) (.inl ⟨rfl, rfl⟩)
  · exact q p _ (same_upd np) upd_same (.inr ⟨np, rfl⟩)
end Fg
/-! repr of data: how long it is; of any value. -/
namespace Fg
open PySem PySem.Spec PyProof.Rows L2
/-- it can be shown, and is not long: at most m signs and parts -/
def rpB (m : Nat) (d : PyData) : Bool := d.showable && (d.leavesShort 400 && decide (d.bulk ≤ m))
structure Rp (m : Nat) (d : PyData) : Prop where
  sh : d.showable = true
  lv : d.leavesShort 400 = true
  bk : d.bulk ≤ m
theorem rp_of {m : Nat} {d : PyData} (h : rpB m d = true) : Rp m d := by
  unfold rpB at h
  rw [Bool.and_eq_true, Bool.and_eq_true] at h
  exact ⟨h.1, h.2.1, of_decide_eq_true h.2.2⟩
theorem Rp.fits {m : Nat} {d : PyData} (h : Rp m d) (hm : m ≤ 20000) : d.shown.length ≤ sizeLine := by
  have h1 := PyData.shown_le_bulk 400 (by decide) d h.lv
  have h2 : (400 + 2) * d.bulk ≤ 402 * 20000 := Nat.mul_le_mul_left _ (Nat.le_trans h.bk hm)
  have h3 : 402 * 20000 + 400 ≤ sizeLine := by decide
  omega
theorem Rp.mono {m n : Nat} {d : PyData} (h : Rp m d) (k : m ≤ n) : Rp n d := ⟨h.sh, h.lv, Nat.le_trans h.bk k⟩
theorem rp_all {m : Nat} : ∀ {ds : List PyData}, (∀ d ∈ ds, Rp m d) → PyData.showableAll ds = true ∧ PyData.leavesShortAll 400 ds = true ∧ PyData.bulkAll ds ≤ (m + 1) * ds.length
  | [], _ => ⟨rfl, rfl, by simp only [PyData.bulkAll]; exact Nat.zero_le _⟩
  | d :: r, h => by
    have h1 := h d (List.mem_cons_self ..)
    obtain ⟨a, b, c⟩ := rp_all (ds := r) fun x hx => h x (List.mem_cons_of_mem _ hx)
    refine ⟨?_, ?_, ?_⟩
    · simp only [PyData.showableAll, h1.sh, a, Bool.and_self]
    · simp only [PyData.leavesShortAll, h1.lv, b, Bool.and_self]
    · have := h1.bk
      simp only [PyData.bulkAll, List.length_cons, Nat.mul_add, Nat.mul_one]
      omega
theorem Rp.list {m : Nat} {ds : List PyData} (h : ∀ d ∈ ds, Rp m d) : Rp ((m + 1) * ds.length) (.list ds) := by
  obtain ⟨a, b, c⟩ := rp_all h
  exact ⟨by simp only [PyData.showable]; exact a, by simp only [PyData.leavesShort]; exact b, by simp only [PyData.bulk]; exact c⟩
theorem Rp.tuple {m : Nat} {ds : List PyData} (h : ∀ d ∈ ds, Rp m d) : Rp ((m + 1) * ds.length) (.tuple ds) := by
  obtain ⟨a, b, c⟩ := rp_all h
  exact ⟨by simp only [PyData.showable]; exact a, by simp only [PyData.leavesShort]; exact b, by simp only [PyData.bulk]; exact c⟩
theorem Rp.str {m : Nat} {l : List Nat} (h : l.length ≤ m) (hc : ∀ c ∈ l, c < 16 ^ 8) : Rp m (dS l) := by
  refine ⟨by simp only [PyData.showable], ?_, ?_⟩
  · simp only [PyData.leavesShort, List.all_eq_true, decide_eq_true_eq]
    intro c hm
    exact hc c (by simpa using hm)
  · simp only [PyData.bulk]
    have : (⟨l.toArray⟩ : Str).cps.size = l.length := by simp
    omega
theorem Rp.non {m : Nat} : Rp m .none := ⟨rfl, rfl, Nat.zero_le _⟩
theorem Rp.bool {m : Nat} (b : Bool) : Rp m (.bool b) := ⟨rfl, rfl, Nat.zero_le _⟩
theorem Rp.int {m : Nat} {i : Int} (h : i.natAbs < 10 ^ 40) : Rp m (.int i) := by
  refine ⟨?_, ?_, Nat.zero_le _⟩
  · simp only [PyData.showable]
    refine decide_eq_true ?_
    rcases Nat.eq_zero_or_pos i.natAbs with z | z
    · rw [z]; decide
    · refine (Nat.log2_lt (by omega)).mpr (Nat.lt_trans h ?_)
      exact (by decide +kernel : 10 ^ 40 < 2 ^ 1920)
  · have := int_text_length_le10 (a := i) (k := 40) (by decide) h
    simp only [PyData.leavesShort]
    refine decide_eq_true ?_
    show (PyData.shown (.int i)).length ≤ 400
    have e : (PyData.shown (.int i)).length = (toString i).length := by
      show (Str.ofString (toString i)).length = _
      rw [PySem.ofString_length]
    omega
/-- repr of any value that is data -/
def rReprA (K : PySem.W.Frag) : RC := fun xs H Q => ∃ (v : V) (d : PyData), xs = [v] ∧ Dp K H v d ∧ d.showable = true ∧ d.hasDict = false ∧ d.depth ≤ 60 ∧ d.shown.length ≤ sizeLine ∧ Q (.str d.shown) H
theorem cReprA (K : PySem.W.Frag) {X : Cx} (hgu : X.A.guards = some []) (hu : X.A.units + 64 < cLine) (hK : X.K = K := by rfl) : CallR X (.builtin "repr") (rReprA K) := by
  subst hK
  intro pins s σ H xs us Q I r h
  obtain ⟨v, d, rfl, hd, h1, h2, h3, h4, q⟩ := h
  cases r with
  | cons ru rn =>
    cases rn
    cases v with
    | ref a =>
      cases (show _ = Value.ref a from ru)
      obtain ⟨as, rd⟩ := Dp.reads I d (.ref a) (.ref a) hd rfl
      exact repr_of_reads' rd h1 (PyData.noDict_hsm h2) hgu (by omega) (fun b o e => e)
        (fun h' u tk hk => ⟨.str d.shown, H, I.kept (t' := tk) hk, ⟨u, rfl⟩, q⟩) h4
    | non =>
      cases hd
      cases (show _ = Value.none from ru)
      exact PySem.P.repr_of_none ⟨.str (PyData.shown .none), H, I.tok (s.toks + 1), ⟨_, rfl⟩, q⟩
    | bl b =>
      cases hd
      cases (show _ = Value.bool b from ru)
      exact PySem.P.repr_of_bool ⟨.str (PyData.shown (.bool b)), H, I.tok (s.toks + 1), ⟨_, rfl⟩, q⟩
    | int i =>
      cases hd
      obtain ⟨t, rfl⟩ := (show ∃ t, _ = Value.int i t from ru)
      exact PySem.P.repr_of_int (of_decide_eq_true (by simpa only [PyData.showable] using h1)) ⟨.str (PyData.shown (.int i)), H, I.tok (s.toks + 1), ⟨_, rfl⟩, q⟩
    | str x =>
      cases hd
      obtain ⟨t, rfl⟩ := (show ∃ t, _ = Value.str x t from ru)
      exact PySem.P.repr_of_str ⟨.str (PyData.shown (.str x)), H, I.tok (s.toks + 1), ⟨_, rfl⟩, q⟩ h4
    | _ => cases hd
section
variable {K : PySem.W.Frag} {H : Hp} {Q : VK} {v : V} {d : PyData} {m : Nat}
theorem i_reprA (h : At H v d) (r : Rp m d) (hm : m ≤ 20000) (nd : d.hasDict = false) (dp : d.depth ≤ 60) (q : Q (.str d.shown) H) : rReprA K [v] H Q := ⟨v, d, rfl, h.dp K d v nd, r.sh, nd, dp, r.fits hm, q⟩
theorem i_reprD {a : Addr} (h : At H (.ref a) d) (r : Rp m d) (hm : m ≤ 20000) (nd : d.hasDict = false) (dp : d.depth ≤ 60) (q : Q (.str d.shown) H) : rReprD K [.ref a] H Q := ⟨a, d, rfl, h.dp K d _ nd, r.sh, nd, dp, r.fits hm, q⟩
end
end Fg
/-! The reader of rhythm texts, in plain Lean. -/
namespace Fg
open PySem PySem.Spec PyProof.Rows L2
abbrev SG : List Nat := [46, 103, 114, 119]
abbrev DG : List Nat := [48, 49, 50, 51, 52, 53, 54, 55, 56, 57]
def Row (l : List Nat) : Prop := ∀ c ∈ l, c ∈ SG
def rpt (n : Nat) (l : List Nat) : List Nat := (List.replicate n l).flatten
theorem rpt_len (n : Nat) (l : List Nat) : (rpt n l).length = n * l.length := by simp [rpt, List.length_flatten]
theorem rpt_succ (k : Nat) (t : List Nat) : rpt (k + 1) t = t ++ rpt k t := by unfold rpt; rw [List.replicate_succ, List.flatten_cons]
theorem rpt_get : ∀ (k : Nat) (t : List Nat) (j : Nat), j < k * t.length → (rpt k t)[j]? = t[j % t.length]?
  | 0, t, j, h => by rw [Nat.zero_mul] at h; omega
  | k + 1, t, j, h => by
    rw [rpt_succ]
    by_cases hj : j < t.length
    · rw [List.getElem?_append_left hj, Nat.mod_eq_of_lt hj]
    · rw [List.getElem?_append_right (by omega), rpt_get k t (j - t.length) (by rw [Nat.succ_mul] at h; omega)]
      rw [← Nat.mod_eq_sub_mod (by omega)]
/-- the first lit one -/
def firstLit : List Nat → Nat
  | [] => 46
  | c :: r => if c = 46 then firstLit r else c
/-- a stretch as the reader has it -/
def Sv (n : Nat) (r : List Nat) : HO := .tup [.int (n : Int), if n ≤ 24 then S r else .non]
abbrev Stv := Nat × List Nat
def lcmL (ps : List Stv) : Nat := ps.foldl (fun b p => Nat.lcm b p.1) 1
theorem lcmL_snoc (ps : List Stv) (p : Stv) : lcmL (ps ++ [p]) = Nat.lcm (lcmL ps) p.1 := by
  unfold lcmL
  rw [List.foldl_append]
  rfl
def showN (ps : List Stv) (n : Nat) : List Nat := (List.range n).map fun i => firstLit (ps.map fun p => (rpt (n / p.1) p.2).getD i 0)
theorem showN_len (ps : List Stv) (n : Nat) : (showN ps n).length = n := by simp [showN]
theorem dvd_fold (ps : List Stv) : ∀ b, (b ∣ ps.foldl (fun b p => Nat.lcm b p.1) b) ∧ ∀ p ∈ ps, p.1 ∣ ps.foldl (fun b p => Nat.lcm b p.1) b := by
  induction ps with
  | nil => exact fun b => ⟨Nat.dvd_refl _, by simp⟩
  | cons q r ih =>
    intro b
    obtain ⟨h1, h2⟩ := ih (Nat.lcm b q.1)
    refine ⟨Nat.dvd_trans (Nat.dvd_lcm_left _ _) h1, fun p hp => ?_⟩
    rcases List.mem_cons.mp hp with rfl | hp
    · exact Nat.dvd_trans (Nat.dvd_lcm_right _ _) h1
    · exact h2 p hp
theorem dvd_lcmL {ps : List Stv} {p : Stv} (h : p ∈ ps) : p.1 ∣ lcmL ps := (dvd_fold ps 1).2 p h
theorem fold_pos (ps : List Stv) (h : ∀ p ∈ ps, 1 ≤ p.1) : ∀ b, 1 ≤ b → 1 ≤ ps.foldl (fun b p => Nat.lcm b p.1) b := by
  induction ps with
  | nil => exact fun b hb => hb
  | cons q r ih => exact fun b hb => ih (fun p hp => h p (List.mem_cons_of_mem _ hp)) _ (Nat.lcm_pos hb (h q List.mem_cons_self))
theorem lcmL_pos {ps : List Stv} (h : ∀ p ∈ ps, 1 ≤ p.1) : 1 ≤ lcmL ps := fold_pos ps h 1 (Nat.le_refl _)
/-! ### digits -/
def run (z : List Nat) (a : Nat) : List Nat := (z.drop a).takeWhile fun c => decide (c ∈ DG)
def bd (z : List Nat) (a : Nat) : Nat := a + (run z a).length
theorem run_step {z : List Nat} {m c : Nat} (h : z[m]? = some c) (hc : c ∈ DG) : run z m = c :: run z (m + 1) := by
  obtain ⟨hl, rfl⟩ := List.getElem?_eq_some_iff.mp h
  unfold run
  rw [List.drop_eq_getElem_cons hl, List.takeWhile_cons_of_pos (by simpa using hc)]
theorem run_stop {z : List Nat} {m : Nat} (h : ∀ c, z[m]? = some c → c ∉ DG) : run z m = [] := by
  unfold run
  by_cases hl : m < z.length
  · rw [List.drop_eq_getElem_cons hl, List.takeWhile_cons_of_neg (by simpa using h _ (List.getElem?_eq_getElem hl))]
  · rw [List.drop_of_length_le (by omega)]
    rfl
theorem bd_step {z : List Nat} {m c : Nat} (h : z[m]? = some c) (hc : c ∈ DG) : bd z (m + 1) = bd z m := by
  unfold bd
  rw [run_step h hc, List.length_cons]
  omega
theorem bd_stop {z : List Nat} {m : Nat} (h : ∀ c, z[m]? = some c → c ∉ DG) : bd z m = m := by
  unfold bd
  rw [run_stop h]
  rfl
theorem bd_le {z : List Nat} {a : Nat} (h : a ≤ z.length) : bd z a ≤ z.length := by
  unfold bd run
  have := (List.takeWhile_prefix (fun c => decide (c ∈ DG)) (l := z.drop a)).length_le
  rw [List.length_drop] at this
  omega
theorem bd_ge (z : List Nat) (a : Nat) : a ≤ bd z a := Nat.le_add_right _ _
theorem bd_eq {z : List Nat} {a : Nat} : bd z a = a ↔ run z a = [] := by
  unfold bd
  constructor
  · intro h
    exact List.length_eq_zero_iff.mp (by omega)
  · intro h
    rw [h]; rfl
theorem run_digits (z : List Nat) (a : Nat) : ∀ c ∈ run z a, c ∈ DG := fun c hc => by
  unfold run at hc
  generalize z.drop a = l at hc
  induction l with
  | nil => simp at hc
  | cons x r ih =>
    by_cases h : x ∈ DG
    · rw [List.takeWhile_cons_of_pos (by simpa using h)] at hc
      rcases List.mem_cons.mp hc with rfl | hc
      · exact h
      · exact ih hc
    · rw [List.takeWhile_cons_of_neg (by simpa using h)] at hc
      simp at hc
theorem cutN_run {z : List Nat} {a : Nat} (h : a ≤ z.length) : cutN z (some (a : Int)) (some (bd z a : Nat)) = run z a := by
  unfold cutN
  rw [HT.sIx_nat, HT.sIx_nat, Nat.min_eq_left h, Nat.min_eq_left (bd_le h)]
  have e : bd z a - a = (run z a).length := by unfold bd; omega
  rw [e]
  unfold run
  exact (List.prefix_iff_eq_take.mp (List.takeWhile_prefix _)).symm
def num (l : List Nat) : Nat := l.foldl (fun n c => 10 * n + (c - 48)) 0
def within (l : List Nat) (lo hi : Nat) : Bool := decide (1 ≤ l.length) && decide (l.length ≤ 2) && decide (lo ≤ num l) && decide (num l ≤ hi)
theorem within_iff {l : List Nat} {lo hi : Nat} : within l lo hi = true ↔ (1 ≤ l.length ∧ l.length ≤ 2 ∧ lo ≤ num l ∧ num l ≤ hi) := by
  unfold within
  simp only [Bool.and_eq_true, decide_eq_true_eq, and_assoc]
/-! ### the reader -/
abbrev Res := Except Nat (Stv × Nat)
def rep (s : Stv) (t : Nat) : Stv := (s.1 * t, rpt t s.2)
def beh (s u : Stv) : Stv := (s.1 + u.1, s.2 ++ u.2)
def shown (ps : List Stv) : Stv := (lcmL ps, showN ps (lcmL ps))
def fillTo (p : Stv) (b : Nat) : Stv := (b, p.2 ++ List.replicate (b - p.1) 46)
def isStart (c : Nat) : Bool := decide (c ∈ SG) || decide (c ∈ DG)
def timesOf (r : List Nat) : Nat := if r = [] then 1 else num r
def close (z : List Nat) (t : Nat) : Res → Res
  | .error k => .error k
  | .ok (s, e) => if z[e]? = some 41 then .ok (rep s t, e + 1) else .error e
def item (rp : Option (Nat → Res)) (z : List Nat) (a : Nat) : Res :=
  if (run z a).take 1 = [48] then .error a
  else match z[bd z a]? with
    | none => .error (bd z a)
    | some c =>
      if c ∉ SG ∧ c ≠ 40 then .error (bd z a)
      else if run z a ≠ [] ∧ within (run z a) 2 24 = false then .error a
      else if c ≠ 40 then .ok (rep (1, [c]) (timesOf (run z a)), bd z a + 1)
      else match rp with
        | none => .error (bd z a)
        | some f => close z (timesOf (run z a)) (f (bd z a + 1))
def goOn (k : Stv → Nat → Res) : Res → Res
  | .error k => .error k
  | .ok (s, e) => k s e
def items (ri : Nat → Res) (z : List Nat) : Nat → Nat → Stv → Res
  | 0, a, p => .ok (p, a)
  | f + 1, a, p => match z[a]? with
    | none => .ok (p, a)
    | some c => if isStart c = true then goOn (fun s e => items ri z f e (beh p s)) (ri a) else .ok (p, a)
def filled (z : List Nat) (a : Nat) (p : Stv) : Res :=
  if run z a = [] then .error a
  else if (run z a).take 1 = [48] ∨ within (run z a) (max 1 p.1) 24 = false then .error a
  else .ok (fillTo p (num (run z a)), bd z a)
def partEnd (z : List Nat) (p : Stv) (e : Nat) : Res := if p.1 = 0 then .error e else if z[e]? = some 64 then filled z (e + 1) p else .ok (p, e)
def part (ri : Nat → Res) (z : List Nat) (a : Nat) : Res := goOn (partEnd z) (items ri z (z.length + 1 - a) a (0, []))
def more (rq : Nat → Res) (z : List Nat) : Nat → Nat → List Stv → Res
  | 0, a, ps => .ok (shown ps, a)
  | f + 1, a, ps => if z[a]? = some 38 then goOn (fun s e => more rq z f e (ps ++ [s])) (rq (a + 1)) else .ok (shown ps, a)
def parts (ri : Nat → Res) (z : List Nat) (a : Nat) : Res := goOn (fun s e => more (part ri z) z (z.length + 1 - e) e [s]) (part ri z a)
mutual
/-- an item, so many more may be opened -/
def rdItem (z : List Nat) : Nat → Nat → Res
  | 0 => item none z
  | d + 1 => item (some (rd z d)) z
def rd (z : List Nat) : Nat → Nat → Res
  | d => parts (rdItem z d) z
end
/-! ### what the reader hands back is small, and has its length -/
def Gb (s : Stv) (w : Nat) : Prop := s.1 + 1 ≤ 2 ^ (5 * w) ∧ (s.1 ≤ 24 → s.2.length = s.1)
def Gd (z : List Nat) (f : Nat → Res) : Prop := ∀ a s e, a ≤ z.length → f a = .ok (s, e) → a < e ∧ e ≤ z.length ∧ 1 ≤ s.1 ∧ Gb s (e - a)
theorem pow_mono5 {x y : Nat} (h : x ≤ y) : 2 ^ (5 * x) ≤ 2 ^ (5 * y) := Nat.pow_le_pow_right (by decide) (by omega)
theorem pow32 {w : Nat} (h : 1 ≤ w) : 32 ≤ 2 ^ (5 * w) := Nat.le_trans (by decide : 32 ≤ 2 ^ (5 * 1)) (pow_mono5 h)
theorem Gb.small {s : Stv} {w : Nat} (h : s.1 ≤ 24) (hw : 1 ≤ w) (hl : s.2.length = s.1) : Gb s w := ⟨by have := pow32 hw; omega, fun _ => hl⟩
theorem Gb.beh {p s : Stv} {x y : Nat} (hp : Gb p x) (hs : Gb s y) : Gb (beh p s) (x + y) := by
  refine ⟨?_, fun h => ?_⟩
  · show p.1 + s.1 + 1 ≤ _
    rw [Nat.mul_add, Nat.pow_add]
    refine Nat.le_trans ?_ (Nat.mul_le_mul hp.1 hs.1)
    rw [Nat.add_mul, Nat.mul_add]
    omega
  · have h : p.1 + s.1 ≤ 24 := h
    show (p.2 ++ s.2).length = p.1 + s.1
    rw [List.length_append, hp.2 (by omega), hs.2 (by omega)]
theorem Gb.rep {s : Stv} {x y t : Nat} (hs : Gb s x) (h1 : 1 ≤ s.1) (t1 : 1 ≤ t) (t2 : t ≤ 24) (hy : x + 1 ≤ y) : Gb (rep s t) y := by
  refine ⟨?_, fun h => ?_⟩
  · show s.1 * t + 1 ≤ _
    refine Nat.le_trans ?_ (pow_mono5 hy)
    rw [Nat.mul_add, Nat.pow_add]
    have := Nat.mul_le_mul hs.1 (show 24 ≤ 2 ^ (5 * 1) by decide)
    have h2 : s.1 * t ≤ s.1 * 24 := Nat.mul_le_mul_left _ t2
    omega
  · have h : s.1 * t ≤ 24 := h
    have : s.1 ≤ s.1 * t := Nat.le_mul_of_pos_right _ t1
    show (rpt t s.2).length = s.1 * t
    rw [rpt_len, hs.2 (by omega), Nat.mul_comm]
theorem times_ok {r : List Nat} (h : ¬ (r ≠ [] ∧ within r 2 24 = false)) : 1 ≤ timesOf r ∧ timesOf r ≤ 24 ∧ (r ≠ [] → 1 ≤ r.length) := by
  unfold timesOf
  by_cases e : r = []
  · rw [if_pos e]; exact ⟨by decide, by decide, fun z => absurd e z⟩
  · rw [if_neg e]
    have : within r 2 24 = true := by
      cases hw : within r 2 24 with
      | true => rfl
      | false => exact absurd ⟨e, hw⟩ h
    have := within_iff.mp this
    exact ⟨by omega, this.2.2.2, fun _ => this.1⟩
theorem item_gd {z : List Nat} {rp : Option (Nat → Res)} (hp : ∀ f, rp = some f → Gd z f) : Gd z (item rp z) := by
  intro a s e ha h
  unfold item at h
  split at h
  · cases h
  · split at h
    · cases h
    · rename_i c hc
      have hl := (List.getElem?_eq_some_iff.mp hc).1
      have hb := bd_ge z a
      split at h
      · cases h
      · split at h
        · cases h
        · rename_i ht
          obtain ⟨t1, t2, t3⟩ := times_ok ht
          split at h
          · cases h
            refine ⟨by omega, by omega, ?_, ?_⟩
            · show 1 ≤ 1 * _; omega
            · refine Gb.small (by show 1 * _ ≤ 24; omega) (by omega) ?_
              show (rpt _ [c]).length = 1 * _
              rw [rpt_len, List.length_singleton]; omega
          · split at h
            · cases h
            · rename_i f
              have g := hp f rfl
              unfold close at h
              split at h
              · cases h
              · rename_i s' e' hf
                obtain ⟨g1, g2, g3, g4⟩ := g _ _ _ (by omega) hf
                split at h
                · rename_i h41
                  have := (List.getElem?_eq_some_iff.mp h41).1
                  cases h
                  refine ⟨by omega, by omega, Nat.mul_pos g3 t1, g4.rep g3 t1 t2 (by omega)⟩
                · cases h
theorem items_gd {z : List Nat} {ri : Nat → Res} (hi : Gd z ri) {a0 : Nat} : ∀ (f a : Nat) (p s : Stv) (e : Nat), a0 ≤ a → a ≤ z.length → Gb p (a - a0) → items ri z f a p = .ok (s, e) → a ≤ e ∧ e ≤ z.length ∧ Gb s (e - a0) ∧ (s.1 = 0 ∨ a < e ∨ s = p)
  | 0, a, p, s, e, h0, ha, hp, h => by
    unfold items at h
    cases h
    exact ⟨by omega, ha, hp, .inr (.inr rfl)⟩
  | f + 1, a, p, s, e, h0, ha, hp, h => by
    unfold items at h
    split at h
    · cases h
      exact ⟨by omega, ha, hp, .inr (.inr rfl)⟩
    · split at h
      · unfold goOn at h
        split at h
        · cases h
        · rename_i s' e' hf
          obtain ⟨g1, g2, g3, g4⟩ := hi _ _ _ ha hf
          have := items_gd hi (a0 := a0) f e' (beh p s') s e (by omega) g2 (by
            have := hp.beh g4
            rw [show a - a0 + (e' - a) = e' - a0 by omega] at this
            exact this) h
          exact ⟨by omega, this.2.1, this.2.2.1, .inr (.inl (by omega))⟩
      · cases h
        exact ⟨by omega, ha, hp, .inr (.inr rfl)⟩
theorem filled_gd {z : List Nat} {a e : Nat} {p s : Stv} (ha : a ≤ z.length) (hp : p.1 ≤ 24 → p.2.length = p.1) (h : filled z a p = .ok (s, e)) : a < e ∧ e ≤ z.length ∧ 1 ≤ s.1 ∧ s.1 ≤ 24 ∧ s.2.length = s.1 := by
  unfold filled at h
  split at h
  · cases h
  · rename_i hr
    split at h
    · cases h
    · rename_i hw
      have : within (run z a) (max 1 p.1) 24 = true := by
        cases hc : within (run z a) (max 1 p.1) 24 with
        | true => rfl
        | false => exact absurd (.inr hc) hw
      obtain ⟨w1, w2, w3, w4⟩ := within_iff.mp this
      cases h
      refine ⟨by unfold bd; omega, bd_le ha, by show 1 ≤ num _; omega, w4, ?_⟩
      show (p.2 ++ List.replicate _ 46).length = num _
      rw [List.length_append, List.length_replicate, hp (by omega)]
      omega
theorem part_gd {z : List Nat} {ri : Nat → Res} (hi : Gd z ri) : Gd z (part ri z) := by
  intro a s e ha h
  unfold part goOn at h
  split at h
  · cases h
  · rename_i p e' hf
    obtain ⟨g1, g2, g3, g4⟩ := items_gd hi (a0 := a) _ a (0, []) p e' (Nat.le_refl _) ha ⟨by rw [Nat.sub_self]; decide, fun _ => rfl⟩ hf
    unfold partEnd at h
    split at h
    · cases h
    · rename_i hp0
      have hlt : a < e' := by
        rcases g4 with g | g | g
        · exact absurd g hp0
        · exact g
        · rw [g] at hp0; exact absurd rfl hp0
      split at h
      · rename_i h64
        have := (List.getElem?_eq_some_iff.mp h64).1
        obtain ⟨f1, f2, f3, f4, f5⟩ := filled_gd (by omega) g3.2 h
        exact ⟨by omega, f2, f3, Gb.small f4 (by omega) f5⟩
      · cases h
        exact ⟨hlt, g2, by omega, g3⟩
def Gps (ps : List Stv) (w : Nat) : Prop := lcmL ps + 1 ≤ 2 ^ (5 * w) ∧ ∀ p ∈ ps, 1 ≤ p.1 ∧ (p.1 ≤ 24 → p.2.length = p.1)
theorem lcm_le_mul {a b : Nat} (ha : 1 ≤ a) (hb : 1 ≤ b) : Nat.lcm a b ≤ a * b := Nat.le_of_dvd (Nat.mul_pos ha hb) (Nat.lcm_dvd_mul a b)
theorem Gps.snoc {ps : List Stv} {s : Stv} {x y : Nat} (h : Gps ps x) (h1 : 1 ≤ s.1) (hs : Gb s y) : Gps (ps ++ [s]) (x + y) := by
  refine ⟨?_, fun p hp => ?_⟩
  · rw [lcmL_snoc, Nat.mul_add, Nat.pow_add]
    refine Nat.le_trans ?_ (Nat.mul_le_mul h.1 hs.1)
    have := lcm_le_mul (lcmL_pos fun p hp => (h.2 p hp).1) h1
    rw [Nat.add_mul, Nat.mul_add]
    omega
  · rcases List.mem_append.mp hp with hp | hp
    · exact h.2 p hp
    · rw [List.mem_singleton.mp hp]; exact ⟨h1, hs.2⟩
theorem Gps.shown {ps : List Stv} {w : Nat} (h : Gps ps w) : 1 ≤ (shown ps).1 ∧ Gb (shown ps) w :=
  ⟨lcmL_pos fun p hp => (h.2 p hp).1, h.1, fun _ => showN_len _ _⟩
theorem Gps.one {s : Stv} {w : Nat} (h1 : 1 ≤ s.1) (h : Gb s w) : Gps [s] w := by
  refine ⟨?_, fun p hp => ?_⟩
  · show Nat.lcm 1 s.1 + 1 ≤ _
    rw [show Nat.lcm 1 s.1 = s.1 by simp [Nat.lcm]]; exact h.1
  · rw [List.mem_singleton.mp hp]; exact ⟨h1, h.2⟩
theorem Gps.mono {ps : List Stv} {x y : Nat} (h : Gps ps x) (e : x ≤ y) : Gps ps y := ⟨Nat.le_trans h.1 (pow_mono5 e), h.2⟩
theorem more_gd {z : List Nat} {rq : Nat → Res} (hi : Gd z rq) {a0 : Nat} : ∀ (f a : Nat) (ps : List Stv) (s : Stv) (e : Nat), a0 ≤ a → a ≤ z.length → Gps ps (a - a0) → more rq z f a ps = .ok (s, e) → a ≤ e ∧ e ≤ z.length ∧ 1 ≤ s.1 ∧ Gb s (e - a0)
  | 0, a, ps, s, e, h0, ha, hp, h => by
    unfold more at h
    cases h
    exact ⟨by omega, ha, hp.shown⟩
  | f + 1, a, ps, s, e, h0, ha, hp, h => by
    unfold more at h
    split at h
    · rename_i h38
      have hl := (List.getElem?_eq_some_iff.mp h38).1
      unfold goOn at h
      split at h
      · cases h
      · rename_i s' e' hf
        obtain ⟨g1, g2, g3, g4⟩ := hi _ _ _ (by omega) hf
        have := more_gd hi (a0 := a0) f e' (ps ++ [s']) s e (by omega) g2 ((hp.snoc g3 g4).mono (by omega)) h
        exact ⟨by omega, this.2⟩
    · cases h
      exact ⟨by omega, ha, hp.shown⟩
theorem parts_gd {z : List Nat} {ri : Nat → Res} (hi : Gd z ri) : Gd z (parts ri z) := by
  intro a s e ha h
  unfold parts goOn at h
  split at h
  · cases h
  · rename_i s' e' hf
    obtain ⟨g1, g2, g3, g4⟩ := part_gd hi _ _ _ ha hf
    have := more_gd (part_gd hi) (a0 := a) _ e' [s'] s e (by omega) g2 (Gps.one g3 g4) h
    exact ⟨by omega, this.2⟩
theorem rdItem_zero (z : List Nat) : rdItem z 0 = item none z := by unfold rdItem; rfl
theorem rdItem_succ (z : List Nat) (d : Nat) : rdItem z (d + 1) = item (some (rd z d)) z := by conv => lhs; unfold rdItem
theorem rd_eq (z : List Nat) (d : Nat) : rd z d = parts (rdItem z d) z := by unfold rd; rfl
theorem rdItem_gd (z : List Nat) : ∀ d, Gd z (rdItem z d)
  | 0 => by rw [rdItem_zero]; exact item_gd fun f e => nomatch e
  | d + 1 => by
    rw [rdItem_succ]
    refine item_gd fun f e => ?_
    cases e
    rw [rd_eq]
    exact parts_gd (rdItem_gd z d)
theorem rd_gd (z : List Nat) (d : Nat) : Gd z (rd z d) := by rw [rd_eq]; exact parts_gd (rdItem_gd z d)
end Fg
/-! What the walk of the reader asks. -/
namespace Fg
open PySem PySem.Spec PyProof.Rows L2
theorem range_getD_map {α β : Type} (xs : List α) (d : α) (g : α → β) : (List.range xs.length).map (fun i => g (xs.getD i d)) = xs.map g := by
  refine List.ext_getElem? fun i => ?_
  rw [List.getElem?_map, List.getElem?_map]
  by_cases h : i < xs.length
  · rw [List.getElem?_range h, Option.map_some, List.getD_eq_getElem?_getD, List.getElem?_eq_getElem h]
    rfl
  · rw [List.getElem?_eq_none (by simpa using h), List.getElem?_eq_none (by omega)]
    rfl
def PartsAt (H : Hp) (qs : List Addr) (ps : List Stv) : Prop := qs.length = ps.length ∧ ∀ (i : Nat) (q : Addr) (p : Stv), qs[i]? = some q → ps[i]? = some p → H q = some (Sv p.1 p.2)
theorem PartsAt.mono {H H' : Hp} {qs : List Addr} {ps : List Stv} (h : PartsAt H qs ps) (s : Same H H') : PartsAt H' qs ps := ⟨h.1, fun i q p a b => s _ _ (h.2 i q p a b)⟩
/-- below some thousand bits -/
def Big (n : Nat) : Prop := n < 2 ^ 8600
theorem Big.le {n m : Nat} (h : Big n) (e : m ≤ n) : Big m := Nat.lt_of_le_of_lt e h
theorem Big.div {n : Nat} {a : Int} (h : Big n) (h0 : (0 : Int) < (n : Int)) : CDivW a (n : Int) := wide_div (b := 8600) h0 (by rw [Int.natAbs_natCast]; exact h) (by decide) (by decide)
theorem Big.mul {n m : Nat} (h : Big n) (h' : Big m) : IntMulOk (n : Int) (m : Int) := CMulW.ok (wide_mul (a := 8600) (b := 8600) (by rw [Int.natAbs_natCast]; exact h) (by rw [Int.natAbs_natCast]; exact h') (by decide) (by decide) (by decide))
theorem Gb.big {s : Stv} {w : Nat} (h : Gb s w) (hw : w ≤ 1700) : Big s.1 := Nat.lt_of_lt_of_le (Nat.lt_of_lt_of_le (Nat.lt_succ_self _) h.1) (Nat.pow_le_pow_right (by decide) (by omega))
theorem Gps.big {ps : List Stv} {w : Nat} (h : Gps ps w) (hw : w ≤ 1700) : Big (lcmL ps) := Nat.lt_of_lt_of_le (Nat.lt_of_lt_of_le (Nat.lt_succ_self _) h.1) (Nat.pow_le_pow_right (by decide) (by omega))
theorem lcmL_take {ps : List Stv} (h : ∀ p ∈ ps, 1 ≤ p.1) (i : Nat) : lcmL (ps.take i) ≤ lcmL ps := by
  refine Nat.le_of_dvd (lcmL_pos h) ?_
  conv => rhs; rw [← List.take_append_drop i ps]
  unfold lcmL
  rw [List.foldl_append]
  exact (dvd_fold _ _).1
/-- int(text) -/
def rIntTx : RC := fun xs H Q => ∃ a n, xs = [.str a] ∧ PySem.intText? a = some n ∧ a.length ≤ 640 ∧ Q (.int n) H
theorem call_intTx {X : Cx} : CallR X (.type "int") rIntTx := call_int_str
theorem int1 : ∀ c ∈ DG, PySem.intText? ⟨#[c]⟩ = some ((num [c] : Nat) : Int) := by decide +kernel
theorem int2 : ∀ c ∈ DG, ∀ d ∈ DG, PySem.intText? ⟨#[c, d]⟩ = some ((num [c, d] : Nat) : Int) := by decide +kernel
theorem i_intTx {r : List Nat} {H : Hp} {Q : VK} (h1 : 1 ≤ r.length) (h2 : r.length ≤ 2) (hd : ∀ c ∈ r, c ∈ DG) (q : Q (.int ((num r : Nat) : Int)) H) : rIntTx [S r] H Q := by
  match r, h1, h2, hd, q with
  | [c], _, _, hd, q => exact ⟨_, _, rfl, int1 c (hd c (by simp)), (show 1 ≤ 640 by omega), q⟩
  | [c, d], _, _, hd, q => exact ⟨_, _, rfl, int2 c (hd c (by simp)) d (hd d (by simp)), (show 2 ≤ 640 by omega), q⟩
/-- str(int), of small ones -/
def dec (n : Nat) : List Nat := if n < 10 then [48 + n] else [48 + n / 10, 48 + n % 10]
theorem dec_str : ∀ n : Nat, n < 100 → (toString (n : Int) : Str) = ⟨(dec n).toArray⟩ := by decide +kernel
def rStrS : RC := fun xs H Q => ∃ n : Nat, xs = [.int (n : Int)] ∧ n < 100 ∧ Q (S (dec n)) H
theorem call_strS {X : Cx} : CallR X (.type "str") rStrS := by
  intro pins s σ H xs us Q I rs h
  obtain ⟨n, rfl, hn, q⟩ := h
  refine call_str_int pins s σ H _ us Q I rs ⟨(n : Int), rfl, ?_, ?_⟩
  · have : (n : Int).natAbs = n := Int.natAbs_natCast n
    rw [this]
    by_cases h0 : n = 0
    · subst h0; decide
    · exact Nat.lt_trans ((Nat.log2_lt h0).mpr (Nat.lt_trans hn (by decide : 100 < 2 ^ 7))) (by decide)
  · have e : V.str (toString (n : Int)) = S (dec n) := by unfold S; rw [dec_str n hn]
    rw [e]; exact q
def rpOf (z : List Nat) : Nat → Option (Nat → Res)
  | 0 => none
  | d + 1 => some (rd z d)
theorem rdItem_item (z : List Nat) (d : Nat) : rdItem z d = item (rpOf z d) z := by
  cases d with
  | zero => exact rdItem_zero z
  | succ d => exact rdItem_succ z d
/-- what is no string -/
def NoStr (H : Hp) (x : V) : Prop := x = .non ∨ (∃ b, x = .bl b) ∨ (∃ i, x = .int i) ∨ ∃ a xs, x = .ref a ∧ (H a = some (.tup xs) ∨ H a = some (.lst xs))
theorem NoStr.mono {H H' : Hp} {x : V} (h : NoStr H x) (s : Same H H') : NoStr H' x := by
  rcases h with h | h | h | ⟨a, xs, h, h2⟩
  · exact .inl h
  · exact .inr (.inl h)
  · exact .inr (.inr (.inl h))
  · exact .inr (.inr (.inr ⟨a, xs, h, h2.imp (s _ _) (s _ _)⟩))
end Fg
namespace Fg
open PySem PySem.Spec PyProof.Rows L2
/-! ### texts put together -/
theorem joinL_len (ls : List (List Nat)) : (TL.joinL [38] ls).length ≤ (ls.map fun l => l.length + 1).sum := by
  induction ls with
  | nil => exact Nat.le_refl _
  | cons p r ih =>
    cases r with
    | nil => show p.length ≤ _; rw [List.map_cons, List.sum_cons]; omega
    | cons q r =>
      show (p ++ ([38] ++ TL.joinL [38] (q :: r))).length ≤ _
      rw [List.map_cons, List.sum_cons, List.length_append, List.length_append]
      have : ([38] : List Nat).length = 1 := rfl
      omega
theorem joinL_len1 (ls : List (List Nat)) (h : ls ≠ []) : (TL.joinL [38] ls).length + 1 ≤ (ls.map fun l => l.length + 1).sum := by
  induction ls with
  | nil => exact absurd rfl h
  | cons p r ih =>
    cases r with
    | nil => show p.length + 1 ≤ _; rw [List.map_cons, List.sum_cons]; omega
    | cons q r =>
      have := ih (by simp)
      show (p ++ ([38] ++ TL.joinL [38] (q :: r))).length + 1 ≤ _
      rw [List.map_cons, List.sum_cons, List.length_append, List.length_append]
      have : ([38] : List Nat).length = 1 := rfl
      omega
theorem join_sep (sep : List Nat) (ls : List (List Nat)) : Txt.join ⟨sep.toArray⟩ (ls.map fun l => (⟨l.toArray⟩ : Str)) = ⟨(TL.joinL sep ls).toArray⟩ := by
  refine TL.ext_tl ?_
  rw [TL.join_eq, TL.tl_join, List.map_map]
  show TL.joinL sep.toArray.toList (ls.map fun l => l.toArray.toList) = (TL.joinL sep ls).toArray.toList
  simp
theorem i_joinG {K : PySem.W.Frag} {H : Hp} {Q : VK} {p : Addr} {sep : List Nat} {ls : List (List Nat)} (hs : SqL K H p (ls.map S)) (hz : (ls.map List.length).sum + ls.length * sep.length ≤ 100000) (q : Q (S (TL.joinL sep ls)) H) : rJoinP K (S sep) [.ref p] H Q := by
  refine ⟨⟨sep.toArray⟩, p, ls.map fun l => (⟨l.toArray⟩ : Str), rfl, rfl, .inl ?_, ?_, ?_⟩
  · rw [List.map_map]; exact hs
  · rw [List.map_map]
    have e : (ls.map ((·.length) ∘ fun l => (⟨l.toArray⟩ : Str))) = ls.map List.length := List.map_congr_left fun l _ => str_len l
    rw [e, List.length_map]
    have e2 : (⟨sep.toArray⟩ : Str).length = sep.length := str_len sep
    show (ls.map List.length).sum + ls.length * (⟨sep.toArray⟩ : Str).length ≤ _
    rw [e2]
    exact Nat.le_trans hz (by decide)
  · rw [join_sep]; exact q
theorem sum_len1 (ls : List (List Nat)) : (ls.map fun l => l.length + 1).sum = (ls.map List.length).sum + ls.length := by
  induction ls with
  | nil => rfl
  | cons p r ih => rw [List.map_cons, List.map_cons, List.sum_cons, List.sum_cons, ih, List.length_cons]; omega
theorem upd_comm {H : Hp} {a b : Addr} {o o' : HO} (h : a ≠ b) : upd (upd H a o) b o' = upd (upd H b o') a o := by
  funext c
  by_cases h1 : c = b
  · rw [h1, upd_same, upd_ne (Ne.symm h), upd_same]
  · rw [upd_ne h1]
    by_cases h2 : c = a
    · rw [h2, upd_same, upd_same]
    · rw [upd_ne h2, upd_ne h2, upd_ne h1]
def ones (n : Nat) : List V := List.replicate n (.int 1)
theorem ones_succ (n : Nat) : ones n ++ [.int 1] = ones (n + 1) := by
  unfold ones
  rw [List.replicate_succ', ]
theorem dec_len (n : Nat) : (dec n).length ≤ 2 := by
  unfold dec
  split <;> simp
end Fg
/-! Own special methods: len(o), o[i], == of instances, isinstance of an instance. -/
namespace Fg
open PySem PySem.Spec PyProof.Rows L2
/-- a special method that stands in the text, with its promise -/
def DOK (P : Program) (w : World) (K : PySem.W.Frag) (mg : Str → Option Value) (base : Heap) (CX : CXT) (k : Nat) (C : Addr) (m : Str) (ps : List Str) (sp : Sp) : Prop :=
  ∃ (f : Addr) (fd : FuncData), Meth K C m f ∧ PySem.W.fnIn K f = true ∧ FnOk P w K mg base CX k f fd ps sp ∧ Binds K fd ps []
section
variable {P : Program} {w : World} {K : PySem.W.Frag} {mg : Str → Option Value} {base : Heap} {q m : Str} {st : Stmt} {N ps : List Str} {k : Nat} {sp : Sp} {C : Addr}
theorem FunD.fnIn {x q : Str} {ag : Arguments} {bd : List Stmt} {sc : Scope} {dvs : List V} {kws : List (Str × V)} {f : Addr} {fd : FuncData} (F : FunD K x q ag bd sc dvs kws f fd) : PySem.W.fnIn K f = true := by
  obtain ⟨⟨_, _, _, _, _, _, _, _, _, _, e, h, _⟩, _⟩ := F
  unfold PySem.W.fnIn
  rw [h, e]
theorem DOK.mk (D : MetIn K C m q st ps []) (S : FnScope N ps (defScope st)) (len : ∀ vs H Q E, sp vs H Q E → vs.length = ps.length)
    (body : ∀ (f : Addr) (cdv : Value) (A : Around) (outer : List Env) (s : Shared) (H : Hp) (vs : List V) (Q : VK) (E : XK), Room k (A.deeper (envOfC q (defScope st) s.heap.objs.size f cdv)) → sp vs H Q E →
      ∃ t, PSs (cxOf CX0 P w K mg base N q (defScope st) f cdv A outer s H E).nox (defBody st) t ∧ t { nx := fun _ H' => Q .non H', rt := Q } (start N vs) H) : DOK P w K mg base CX0 (k + 1) C m ps sp := by
  obtain ⟨f, fd, hm, F, hb, _⟩ := D
  exact ⟨f, fd, hm, FunD.fnIn F, FunD.ok0 F S len fun cdv A outer s H vs Q E hr h => body f cdv A outer s H vs Q E hr h, hb⟩
theorem DOK.mkX (D : MetIn K C m q st ps []) (S : FnScope N ps (defScope st)) (len : ∀ vs H Q E, sp vs H Q E → vs.length = ps.length)
    (body : ∀ (f : Addr) (cdv : Value) (A : Around) (outer : List Env) (s : Shared) (H : Hp) (vs : List V) (Q : VK) (E : XK), Room k (A.deeper (envOfC q (defScope st) s.heap.objs.size f cdv)) → sp vs H Q E →
      ∃ t, PSs (cxOf (L2.CX P w) P w K mg base N q (defScope st) f cdv A outer s H E) (defBody st) t ∧ t { nx := fun _ H' => Q .non H', rt := Q } (start N vs) H) : DOK P w K mg base (L2.CX P w) (k + 1) C m ps sp := by
  obtain ⟨f, fd, hm, F, hb, _⟩ := D
  exact ⟨f, fd, hm, FunD.fnIn F, F.ok S len fun cdv A outer s H vs Q E hr h => body f cdv A outer s H vs Q E hr h, hb⟩
end
section
variable {X : Cx} {CX : CXT} {k : Nat} {f C a : Addr} {fd : FuncData} {ps : List Str} {sp : Sp} {E : XK} {pins : List (Addr × Obj)} {σ : L2.St} {H : Hp} {s : Shared}
/-- a def is run within a built-in -/
theorem run_in {A1 : Around} (F : FnOk X.prog X.w X.K X.mg X.base CX k f fd ps sp) (hr : Room k A1) (hf : A1.frames = X.A.frames) (hb : Binds X.K fd ps []) (hx : Passes CX X E)
    {Q : VK} {us : List Value} {vs : List V} (I : Inv X pins σ H s) (r : Vals vs us) (h : sp vs H Q E) : wpAny (model X.prog X.w) A1 (call (.ref f) us) (EP X pins σ Q) X.xe s := by
  have e0 : Env0 X.prog X.w X.K X.mg X.base A1 X.stack s H := by
    have e := I.env0
    exact ⟨by rw [hf]; exact e.frames, e.mod, e.bs, e.bsz, e.funs, e.frf, e.hok, e.bare⟩
  have hl := F.len _ _ _ _ h
  have b1 := hb s us I.kIn (by rw [List.append_nil, ← r.length]; exact hl)
  rw [List.append_nil] at b1
  refine wpAny_call (codeAny_mono (F.run A1 X.stack s H ⟨us, []⟩ us vs Q E hr e0 b1 r h) fun res t2 h2 => ?_)
  cases res with
  | error z => exact hx pins σ H s z t2 I h2
  | ok fl =>
    cases fl with
    | next => exact h2.elim
    | brk => exact h2.elim
    | cont => exact h2.elim
    | ret u => exact I.after h2
/-! ### len(o) -/
def rLenO (C : Addr) (sp : Sp) (E : XK) : RC := fun xs H Q => ∃ a dx fs, xs = [.ref a] ∧ H a = some (.ins C dx fs) ∧ sp [.ref a] H (fun v H' => ∃ n : Nat, v = .int (n : Int) ∧ n ≤ 100000 ∧ Q v H') E
theorem call_lenO (G : DOK X.prog X.w X.K X.mg X.base CX k C "__len__" ps sp) (hr : Room (k + 1) X.A) (hx : Passes CX X E) : CallR X (.builtin "len") (rLenO C sp E) := by
  intro pins s σ H xs us Q I r h
  obtain ⟨a, dx, fs, rfl, ha, q⟩ := h
  obtain ⟨f, fd, hm, _, F, hb⟩ := G
  cases r with
  | cons ru rn =>
    cases rn
    cases (show _ = Value.ref a from ru)
    obtain ⟨mA, J, _⟩ := ins_get I.hok ha
    obtain ⟨od, J, _⟩ := J.look
    obtain ⟨m, hF⟩ := I.fr
    refine PySem.W.len_K hF I.ok.mod.kin J hm.at_ hm.fn ?_
    refine wpAny_mono (run_in F hr.in1 rfl hb hx I (show Vals [V.ref a] [Value.ref a] from .cons rfl .nil) q) (fun u s1 hq => ?_) fun _ _ z => z
    obtain ⟨v, H1, I1, rv, n, rfl, hn, q1⟩ := hq
    obtain ⟨t, rfl⟩ := rv
    exact ⟨⟨by omega, by omega⟩, .int (n : Int), H1, I1.tok (s1.toks + 1), ⟨_, rfl⟩, q1⟩
/-! ### o[e] -/
def tIxO (C : Addr) (sp : Sp) (E : XK) (to te : TE) : TE := fun σ H Q => to σ H fun x H1 => te σ H1 fun y H2 => ∃ a dx fs, x = .ref a ∧ H2 a = some (.ins C dx fs) ∧ sp [x, y] H2 Q E
theorem pe_ixO {o e : Expr} {to te : TE} {pos : PySem.Pos} (ho : PE X o to) (he : PE X e te) (G : DOK X.prog X.w X.K X.mg X.base CX k C "__getitem__" ps sp) (hr : Room (k + 1) X.A) (hx : Passes CX X E)
    (hsl : ∀ x i, subscripted e true (.ref x) i = runValue (.builtin "lifetime.subscript" ⟨[.ref x, i], []⟩) := by intro _ _; with_unfolding_all rfl) :
    PE X (.Subscript o e pos) (tIxO C sp E to te) := by
  refine ⟨fun pins s σ H Q I h => ?_⟩
  obtain ⟨f, fd, hm, hfn, F, hb⟩ := G
  refine Subscript_ (binT ho he I h fun v u s2 x y H2 I2 rx ry q => ?_)
  obtain ⟨a, dx, fs, rfl, ha, q⟩ := q
  cases rx
  obtain ⟨mA, J, _⟩ := ins_get I2.hok ha
  obtain ⟨od, J, _⟩ := J.look
  obtain ⟨m, hF⟩ := I2.fr
  exact PySem.W.sub_K hF I2.ok.mod.kin J hm.at_ hfn hm.fn (run_in F hr.in1 rfl hb hx I2 (show Vals [V.ref a, y] [Value.ref a, u] from .cons rfl (.cons ry .nil)) q) (hsl a _)
/-! ### == by an own __eq__ -/
def rEqO (C : Addr) (sp : Sp) (E : XK) : R2 := fun x y H Q => ∃ a dx fs, x = .ref a ∧ H a = some (.ins C dx fs) ∧ ((∃ b dy gs, y = .ref b ∧ H b = some (.ins C dy gs)) ∨ ∃ b ys, y = .ref b ∧ H b = some (.tup ys)) ∧
  sp [x, y] H (fun v H' => ∃ b, v = .bl b ∧ Q v H') E
theorem cmpBack {A1 : Around} {Q : VK} {u : Value} {s1 : Shared} (h : EP X pins σ (fun v H' => ∃ b, v = .bl b ∧ Q v H') u s1) : ∃ b, u = .bool b ∧ EP X pins σ Q u s1 := by
  obtain ⟨v, H1, I1, rv, b, rfl, q⟩ := h
  cases (show u = Value.bool b from rv)
  exact ⟨b, rfl, .bl b, H1, I1, rfl, q⟩
theorem op_eqO (G : DOK X.prog X.w X.K X.mg X.base CX k C "__eq__" ps sp) (hT : PySem.W.notFirst X.K C (.type "tuple") = true) (hr : Room k X.A) (hx : Passes CX X E) : OpR X (compareOp .Eq) (rEqO C sp E) := by
  intro pins s σ H x y v u Q I rx ry h
  obtain ⟨a, dx, fs, rfl, ha, hy, q⟩ := h
  obtain ⟨f, fd, hm, _, F, hb⟩ := G
  cases rx
  obtain ⟨mA, J, _⟩ := ins_get I.hok ha
  obtain ⟨od, J, _⟩ := J.look
  obtain ⟨m, hF⟩ := I.fr
  have back : wpAny (model X.prog X.w) X.A (call (.ref f) [.ref a, u]) (PySem.W.CmpBack (EP X pins σ Q)) X.xe s :=
    wpAny_mono (run_in F hr rfl hb hx I (show Vals [V.ref a, y] [Value.ref a, u] from .cons rfl (.cons ry .nil)) q) (fun w' s1 hq => by
      obtain ⟨b, rfl, e⟩ := cmpBack (A1 := X.A) hq
      exact e) fun _ _ z => z
  rcases hy with ⟨b, dy, gs, rfl, hy⟩ | ⟨b, ys, rfl, hy⟩
  · cases ry
    obtain ⟨mB, J', _⟩ := ins_get I.hok hy
    obtain ⟨od', J', _⟩ := J'.look
    exact PySem.W.cmp_K (op := .Eq) (tb := .ref C) hr.units0 hF I.ok.mod.kin J J'.type (by simp [PySem.W.notFirst]) hm.at_ hm.fn back
  · cases ry
    obtain ⟨its, _, e, _⟩ := I.tuple (.inl (.inl hy))
    obtain ⟨o, ho, hc, _⟩ := id e
    refine PySem.W.cmp_K (op := .Eq) (tb := .type "tuple") hr.units0 hF I.ok.mod.kin J ?_ hT hm.at_ hm.fn back
    exact (PySem.W.Looks.ld ho).andThen (by rw [hc]; exact .now)
/-! ### a tuple == an instance: the instance is asked -/
def rEqR (C : Addr) (sp : Sp) (E : XK) : R2 := fun x y H Q => ∃ a dx fs b ys, y = .ref a ∧ H a = some (.ins C dx fs) ∧ x = .ref b ∧ H b = some (.tup ys) ∧ sp [y, x] H (fun v H' => ∃ b, v = .bl b ∧ Q v H') E
end
end Fg
/-! for x in o, where o's class has an __iter__ that returns iter(a tuple). -/
namespace Fg
open PySem PySem.Spec PyProof.Rows L2
abbrev tItO (t : Addr) : Obj := { cls := .type "tuple_iterator", data := .fields #[.ref t, .int 0 0] }
/-- the iterator, at its beginning -/
def TiO (it t : Addr) : HO := .ext fun h => h.get? it = some (tItO t)
theorem tiO_ok {P : Program} {w : World} {H : Hp} {h : Heap} {it t : Addr} (e : h.get? it = some (tItO t)) : ObjOk P w H h it (TiO it t) := ⟨e, ⟨_, e⟩, fun h1 h2 q k => k _ q⟩
/-- iter(a tuple), the iterator not older than n -/
def rIterT (K : PySem.W.Frag) (n : Nat) : RC := fun xs H Q => ∃ (t : Addr) (zs : List V), xs = [.ref t] ∧ SqT K H t zs ∧ ∀ it, H it = none → n ≤ it → Q (.ref it) (upd H it (TiO it t))
theorem call_iterT {X : Cx} : CallR X (.builtin "iter") (rIterT X.K X.s_0.heap.objs.size) := by
  intro pins s σ H xs us Q I r h
  obtain ⟨t, zs, rfl, hq, q⟩ := h
  obtain ⟨u, rfl, ru⟩ := vals1 r
  cases ru
  obtain ⟨its, rv, pl, hz⟩ := I.tuple hq
  refine Calls.call_function_entry (by decide +kernel) (by decide +kernel) PySem.W.kdk_entry_iter (PySem.W.kdk_args_iter _) ?_
  unfold Builtin.«iter»
  refine wpAny_bind (m := someArgs "iter" 1 2 _) (wpAny_of_eq (a := [Value.ref t]) (by first | rfl | kernel_rfl!) ?_)
  show wpAny _ _ (pyIter (.ref t) >>= _) _ _ _
  refine wpAny_bind (wpAny_pyIter_tuple (show s.heap.IsTuple t its.toArray from pl) ?_)
  refine wpAny_pure ⟨_, rfl, ?_⟩
  exact ⟨.ref s.heap.objs.size, _, I.laid (t' := s.toks) (fun b u e => Heap.get?_push_of_some _ e) (Nat.le_refl _) (tiO_ok (Heap.get?_push_size _ rfl)), rfl, q _ (I.hok.fresh (Nat.le_refl _)) I.sz⟩
theorem cIterT (K : PySem.W.Frag) {X : Cx} (h : X.K = K := by rfl) : CallR X (.builtin "iter") (rIterT K X.s_0.heap.objs.size) := h ▸ call_iterT
/-- a def whose promise speaks of the age of what it makes: n is the heap's size at the call -/
structure NOk (P : Program) (w : World) (K : PySem.W.Frag) (mg : Str → Option Value) (base : Heap) (CX : CXT) (k : Nat) (f : Addr) (fd : FuncData) (ps : List Str) (sp : Nat → Sp) : Prop where
  many : ∀ n vs H Q E, sp n vs H Q E → vs.length = ps.length
  runs : ∀ (B : Around) (o : List Env) (t : Shared) (H : Hp) (ar : Args) (us : List Value) (vs : List V) (Q : VK) (E : XK),
    Room k B → Env0 P w K mg base B o t H → BindsTo t fd ar (ps.zip us) → Vals vs us →
    sp t.heap.objs.size vs H Q E → codeAny (model P w) B (.call (.ref f) ar) (CR CX o P w H t Q E) t
section
variable {P : Program} {w : World} {K : PySem.W.Frag} {mg : Str → Option Value} {base : Heap} {CX : CXT} {k : Nat} {f : Addr} {fd : FuncData} {ps N : List Str} {sp : Nat → Sp} {x q : Str} {st : Stmt} {dvs : List V} {kws : List (Str × V)}
theorem nok_mk (F : FunD K x q (defArgs st) (defBody st) (defScope st) dvs kws f fd) (S : FnScope N ps (defScope st)) (many : ∀ n vs H Q E, sp n vs H Q E → vs.length = ps.length)
    (body : ∀ (cv : Value) (B : Around) (o : List Env) (t : Shared) (H : Hp) (vs : List V) (Q : VK) (E : XK),
      Room k (B.deeper (envOfC q (defScope st) t.heap.objs.size f cv)) → sp t.heap.objs.size vs H Q E →
      ∃ rd, PSs (cxOf CX P w K mg base N q (defScope st) f cv B o t H E) (defBody st) rd ∧
        rd { nx := fun _ H2 => Q .non H2, rt := Q } (start N vs) H) : NOk P w K mg base CX (k + 1) f fd ps sp := by
  obtain ⟨c1, d1, kw1, dc1, pm1, an1, cv1, ct1, sl1, osl1, rfl, at1, code1, _, _⟩ := F.ex
  refine ⟨many, fun B o t H ar us vs Q E room en bd rv asked => ?_⟩
  have inK : K.In t.heap := en.mod.kin.keeps fun b u e => (en.bs b u e).1
  have nolim : t.heap.NoLimit := en.mod.nolimit.keeps fun b u e => (en.bs b u e).1
  have n1 := many _ _ _ _ _ asked
  refine codeAny_call_function room.depth (inK _ _ at1) rfl S.co S.gen rfl
    (PySem.W.codeRec_of inK code1) (bd _ _ _ _ ?_)
  refine wpAny_newFunctionEnv_cells S.kind (fun ⟨nm, u⟩ hm => ?_) fun env he t1 made => ?_
  · exact (S.par nm (List.of_mem_zip hm).1).elim .inl fun z => .inr ⟨z, PySem.W.cellsFrom_some _ _ _ (.inl z)⟩
  subst he
  obtain ⟨rd, walked, holds⟩ := body ct1 B o t H vs Q E (room.deeper _) asked
  have I0 := inv_start (CX := CX) (E := E) S room.hd en n1 rv made
  refine ⟨nolim.keeps made.toInCall.keep, codeAny_func (wpAny_mono (walked.run [] t1 (start N vs) H _ I0 holds) (fun fl t2 h2 => ?_) fun _ _ h2 => h2)⟩
  cases fl with
  | brk => obtain ⟨_, _, _, z⟩ := h2; exact z.elim
  | cont => obtain ⟨_, _, _, z⟩ := h2; exact z.elim
  | next =>
    obtain ⟨_, H2, J, z⟩ := h2
    exact ⟨.non, H2, J.os, J.bare, J.base, J.hok, rfl, z⟩
  | ret u =>
    obtain ⟨v, _, H2, J, rv2, z⟩ := h2
    exact ⟨v, H2, J.os, J.bare, J.base, J.hok, rv2, z⟩
end
/-- __iter__ of the class at C: an iterator over the tuple in the field fl -/
def spIt (K : PySem.W.Frag) (C : Addr) (fl : Str) (n : Nat) : Sp := sp1 fun x H Q _ => ∃ a dx fs t zs, x = .ref a ∧ H a = some (.ins C dx fs) ∧ fs.lookup fl = some (.ref t) ∧ SqT K H t zs ∧ ∀ it, H it = none → n ≤ it → Q (.ref it) (upd H it (TiO it t))
def IOK (P : Program) (w : World) (K : PySem.W.Frag) (mg : Str → Option Value) (base : Heap) (CX : CXT) (k : Nat) (C : Addr) (fl : Str) : Prop :=
  ∃ (f : Addr) (fd : FuncData), Meth K C "__iter__" f ∧ NOk P w K mg base CX k f fd ["self"] (spIt K C fl) ∧ Binds K fd ["self"] []
theorem IOK.mk {P : Program} {w : World} {K : PySem.W.Frag} {mg : Str → Option Value} {base : Heap} {q fl : Str} {st : Stmt} {N : List Str} {k : Nat} {C : Addr} (D : MetIn K C "__iter__" q st ["self"] []) (S : FnScope N ["self"] (defScope st))
    (body : ∀ (f : Addr) (cdv : Value) (A : Around) (outer : List Env) (s : Shared) (H : Hp) (vs : List V) (Q : VK) (E : XK), Room k (A.deeper (envOfC q (defScope st) s.heap.objs.size f cdv)) → spIt K C fl s.heap.objs.size vs H Q E →
      ∃ t, PSs (cxOf CX0 P w K mg base N q (defScope st) f cdv A outer s H E).nox (defBody st) t ∧ t { nx := fun _ H' => Q .non H', rt := Q } (start N vs) H) : IOK P w K mg base CX0 (k + 1) C fl := by
  obtain ⟨f, fd, hm, F, hb, _⟩ := D
  exact ⟨f, fd, hm, nok_mk F S (fun n vs H Q E h => len1 vs H Q E h) fun cv B o t H vs Q E hr h => let ⟨rd, z, e⟩ := body f cv B o t H vs Q E hr h; ⟨rd, z.nox, e⟩, hb⟩
/-- the walk over o -/
def iOwn (K : PySem.W.Frag) (C : Addr) (fl : Str) (te : TE) : TI := fun σ H R => te σ H fun x H1 => ∃ a dx fs t zs, x = .ref a ∧ H1 a = some (.ins C dx fs) ∧ fs.lookup fl = some (.ref t) ∧ SqT K H1 t zs ∧ R (Itt K t) H1
theorem piOwn {X : Cx} {CX : CXT} {k : Nat} {C : Addr} {fl : Str} {E : XK} {tg e : Expr} {te : TE} (he : PE X e te) (G : IOK X.prog X.w X.K X.mg X.base CX k C fl) (hr : Room k X.A) (hx : Passes CX X E) : PI X tg e (iOwn X.K C fl te) := by
  refine ⟨fun pins s σ H R I h => thn (he.run pins s σ H _ I h) fun v s1 ⟨x, H1, J1, r1, q1⟩ => ?_⟩
  obtain ⟨a, dx, fs, t, zs, rfl, ha, hl, hq, q⟩ := q1
  cases r1
  obtain ⟨f, fd, hm, F, hb⟩ := G
  obtain ⟨mA, J, _⟩ := ins_get J1.hok ha
  obtain ⟨od, J, _⟩ := J.look
  obtain ⟨m, hF⟩ := J1.fr
  refine PySem.W.owit_iter hF J1.ok.mod.kin J hm.at_ hm.fn ?_
  have e0 := J1.env0
  have r2 : Vals [V.ref a] [Value.ref a] := .cons rfl .nil
  have b1 := hb s1 [.ref a] J1.kIn rfl
  have asked : spIt X.K C fl s1.heap.objs.size [.ref a] H1 (fun v H' => ∃ it, v = .ref it ∧ H1 it = none ∧ s1.heap.objs.size ≤ it ∧ H' = upd H1 it (TiO it t)) E :=
    ⟨.ref a, rfl, a, dx, fs, t, zs, rfl, ha, hl, hq, fun it n1 n2 => ⟨it, rfl, n1, n2, rfl⟩⟩
  refine wpAny_call (codeAny_mono (F.runs X.A X.stack s1 H1 ⟨[.ref a], []⟩ [.ref a] [.ref a] _ E hr e0 (by simpa using b1) r2 asked) fun res t2 h2 => ?_)
  cases res with
  | error z => exact hx pins σ H1 s1 z t2 J1 h2
  | ok fl' =>
    cases fl' with
    | next => exact h2.elim
    | brk => exact h2.elim
    | cont => exact h2.elim
    | ret u =>
      obtain ⟨v, H2, I2, rv, it, rfl, n1, n2, rfl⟩ := J1.after h2
      cases rv
      have ho := (I2.hok it _ upd_same).1
      have hT : t2.TypeIs (.ref it) "tuple_iterator" := ⟨_, ho, rfl⟩
      have I3 : Inv X pins σ H1 t2 := by
        have := ItX.inv_drop I2 (a := it) upd_same
        rw [ItX.dropH_upd n1] at this
        exact this
      unfold PySem.W.OwitIt
      refine wpAny_specialOf hT PySem.F.slot_tuple_iterator_next.lookup ?_
      refine ⟨it, [it], fun i h => h.IsTupleIter it t i, Itt X.K t, H1, rfl, I3, turn_tuple t it, ⟨_, ho, rfl, rfl⟩, fun b hb' => ?_, q⟩
      have e : b = it := by simpa using hb'
      rw [e]
      exact J1.fpOk n2 n1
theorem piOwnK (K : PySem.W.Frag) {X : Cx} {CX : CXT} {k : Nat} {C : Addr} {fl : Str} {E : XK} {tg e : Expr} {te : TE} (he : PE X e te) (G : IOK X.prog X.w X.K X.mg X.base CX k C fl) (hr : Room k X.A) (hx : Passes CX X E) (h : X.K = K := by rfl) : PI X tg e (iOwn K C fl te) := h ▸ piOwn he G hr hx
/-! ### a tuple == an instance: the tuple says nothing, the instance is asked -/
section
variable {X : Cx} {CX : CXT} {k : Nat} {C : Addr} {ps : List Str} {sp : Sp} {E : XK}
theorem op_eqR (G : DOK X.prog X.w X.K X.mg X.base CX k C "__eq__" ps sp) (hS : PySem.W.subIn X.K (.ref C) (.type "tuple") = some false) (hr : Room k X.A) (hx : Passes CX X E) : OpR X (compareOp .Eq) (rEqR C sp E) := by
  intro pins s σ H x y v u Q I rx ry h
  obtain ⟨a, dx, fs, b, ys, rfl, ha, rfl, hb', q⟩ := h
  obtain ⟨f, fd, hm, _, F, hb⟩ := G
  cases rx
  cases ry
  obtain ⟨mA, J, _⟩ := ins_get I.hok ha
  obtain ⟨od, J, _⟩ := J.look
  obtain ⟨its, _, pl, _⟩ := I.tuple (.inl (.inl hb'))
  have hT : s.TypeIs (.ref b) "tuple" := by
    obtain ⟨o, ho, hc, _⟩ := id pl
    exact ⟨o, ho, hc⟩
  show wpAny (model X.prog X.w) X.A (richCompare .Eq (.ref b) (.ref a)) _ _ _
  unfold richCompare
  simp only [oneThing_ref]
  refine wpAny_holding (wpAny_bind (wpAny_cRoomFor hr.units0 ?_))
  refine wpAny_bind (wpAny_typeOf hT (wpAny_bind (J.type.here ?_)))
  rw [if_pos (show ((Value.type "tuple") != (Value.ref _)) = true from rfl)]
  refine wpAny_bind ((PySem.W.looks_subIn I.kIn hS).here ?_)
  simp only [Bool.false_eq_true, if_false]
  refine wpAny_bind (Q := _) ?_
  unfold tryCompare
  refine wpAny_bind (wpAny_callSpecialIfBound?_slot (name := Str.ofString "__eq__") hT PySem.F.slot_tuple_eq (wpAny_call_entry PySem.F.slot_tuple_eq hT PySem.F.entry_tuple_eq ?_ (PySem.F.args_tuple_eq_2 _ _)))
  show wpAny _ _ (isInstance (.ref a) (.type "tuple") >>= _) _ _ s
  refine wpAny_bind (wpAny_bind (J.type.here ((PySem.W.looks_subIn I.kIn hS).here ?_)))
  refine wpAny_pure ⟨_, rfl, wpAny_pure ?_⟩
  simp only [Bool.not_false, if_true]
  refine wpAny_bind (wpAny_bind (PySem.W.ifBound_K I.kIn J hm.at_ hm.fn ?_))
  refine wpAny_mono (run_in F hr rfl hb hx I (show Vals [V.ref a, V.ref b] [Value.ref a, Value.ref b] from .cons rfl (.cons rfl .nil)) q) (fun w' s1 hq => ?_) fun _ _ z => z
  obtain ⟨bb, rfl, e⟩ := cmpBack (A1 := X.A) hq
  exact wpAny_pure (wpAny_pure e)
end
end Fg
/-! In a try: instances made, o[e]; what an own class tells of its instances. -/
namespace Fg
open PySem PySem.Spec PyProof.Rows L2
section
variable {X : Cx} {CX : CXT} {k : Nat} {f C a : Addr} {fd : FuncData} {x : Str} {ps : List Str} {sp : Sp} {E : XK} {ES : L2.St → XK} {pins : List (Addr × Obj)} {σ : L2.St} {H : Hp} {s : Shared} {dvs : List V} {ds : List Value}
theorem run_inS {A1 : Around} (F : FnOk X.prog X.w X.K X.mg X.base CX k f fd ps sp) (hr : Room k A1) (hf : A1.frames = X.A.frames) (hb : Binds X.K fd ps []) (hx : PassesAt CX X σ E)
    {Q : VK} {us : List Value} {vs : List V} (I : Inv X pins σ H s) (r : Vals vs us) (h : sp vs H Q E) : wpAny (model X.prog X.w) A1 (call (.ref f) us) (EP X pins σ Q) X.xe s := by
  have e0 : Env0 X.prog X.w X.K X.mg X.base A1 X.stack s H := by
    have e := I.env0
    exact ⟨by rw [hf]; exact e.frames, e.mod, e.bs, e.bsz, e.funs, e.frf, e.hok, e.bare⟩
  have hl := F.len _ _ _ _ h
  have b1 := hb s us I.kIn (by rw [List.append_nil, ← r.length]; exact hl)
  rw [List.append_nil] at b1
  refine wpAny_call (codeAny_mono (F.run A1 X.stack s H ⟨us, []⟩ us vs Q E hr e0 b1 r h) fun res t2 h2 => ?_)
  cases res with
  | error z => exact hx pins H s z t2 I h2
  | ok fl =>
    cases fl with
    | next => exact h2.elim
    | brk => exact h2.elim
    | cont => exact h2.elim
    | ret u => exact I.after h2
def tIxOS (C : Addr) (sp : Sp) (ES : L2.St → XK) (to te : TE) : TE := fun σ H Q => to σ H fun x H1 => te σ H1 fun y H2 => ∃ a dx fs, x = .ref a ∧ H2 a = some (.ins C dx fs) ∧ sp [x, y] H2 Q (ES σ)
theorem pe_ixOS {o e : Expr} {to te : TE} {pos : PySem.Pos} (ho : PE X o to) (he : PE X e te) (G : DOK X.prog X.w X.K X.mg X.base CX k C "__getitem__" ps sp) (hr : Room (k + 1) X.A) (hx : ∀ σ, PassesAt CX X σ (ES σ))
    (hsl : ∀ x i, subscripted e true (.ref x) i = runValue (.builtin "lifetime.subscript" ⟨[.ref x, i], []⟩) := by intro _ _; with_unfolding_all rfl) :
    PE X (.Subscript o e pos) (tIxOS C sp ES to te) := by
  refine ⟨fun pins s σ H Q I h => ?_⟩
  obtain ⟨f, fd, hm, hfn, F, hb⟩ := G
  refine Subscript_ (binT ho he I h fun v u s2 x y H2 I2 rx ry q => ?_)
  obtain ⟨a, dx, fs, rfl, ha, q⟩ := q
  cases rx
  obtain ⟨mA, J, _⟩ := ins_get I2.hok ha
  obtain ⟨od, J, _⟩ := J.look
  obtain ⟨m, hF⟩ := I2.fr
  exact PySem.W.sub_K hF I2.ok.mod.kin J hm.at_ hfn hm.fn (run_inS F hr.in1 rfl hb (hx σ) I2 (show Vals [V.ref a, y] [Value.ref a, u] from .cons rfl (.cons ry .nil)) q) (hsl a _)
theorem run_makeS {Q : VK} {us : List Value} {vs : List V} (M : Mk X.K C f) (F : FnOk X.prog X.w X.K X.mg X.base CX k f fd ps sp) (hr : Room (k + 1) X.A) (hb : Binds X.K fd ps ds) (hd : Vals dvs ds)
    (hx : PassesAt CX X σ E) (I : Inv X pins σ H s) (r : Vals vs us)
    (h : ∀ x dx, H x = none → H dx = none → dx ≠ x → sp (.ref x :: (vs ++ dvs)) (upd (upd H dx (.own x)) x (.ins C dx [])) (fun v H2 => v = .non ∧ Q (.ref x) H2) E) :
    wpAny (model X.prog X.w) X.A (call (.ref C) us) (EP X pins σ Q) X.xe s := by
  have hq := h (s.heap.objs.size + 1) s.heap.objs.size (I.hok.fresh (Nat.le_succ _)) (I.hok.fresh (Nat.le_refl _)) (Nat.ne_of_lt (Nat.lt_succ_self _))
  have I2 := Inv.made (C := C) I
  have r2 : Vals (V.ref (s.heap.objs.size + 1) :: (vs ++ dvs)) (Value.ref (s.heap.objs.size + 1) :: (us ++ ds)) := .cons rfl (r.append hd)
  have hl : (Value.ref (s.heap.objs.size + 1) :: us ++ ds).length = ps.length := by
    have e := r2.length
    rw [F.len _ _ _ _ hq] at e
    exact e.symm
  refine wpAny_call (make_map (f := f) I.kIn M.makes M.init (beq_iff_eq.mp M.fn) (codeAny_mono (F.run _ X.stack _ _ ⟨Value.ref (s.heap.objs.size + 1) :: us, []⟩ (Value.ref (s.heap.objs.size + 1) :: (us ++ ds)) _ _ E (hr.make C us [])
    (I2.env0.make C us []) (hb _ (Value.ref (s.heap.objs.size + 1) :: us) I2.kIn hl) r2 hq) fun r s' hq' => ?_))
  cases r with
  | error e => exact hx pins _ _ e s' I2 hq'
  | ok fl =>
    cases fl with
    | ret u =>
      obtain ⟨v, H', I3, rv, ev, q3⟩ := I2.after hq'
      subst ev
      exact ⟨rv, ⟨V.ref (s.heap.objs.size + 1), H', I3, rfl, q3⟩⟩
    | next => exact False.elim hq'
    | brk => exact False.elim hq'
    | cont => exact False.elim hq'
def tMakeS (C : Addr) (sp : Sp) (ES : L2.St → XK) (ta : TA) : TE := fun σ H Q => ta σ H fun vs H1 => ∀ x dx, H1 x = none → H1 dx = none → dx ≠ x → sp (.ref x :: (vs ++ [])) (upd (upd H1 dx (.own x)) x (.ins C dx [])) (fun v H2 => v = .non ∧ Q (.ref x) H2) (ES σ)
theorem pe_mkS {e : Expr} {es : List Expr} {ta : TA} {p pos : PySem.Pos} (G : MkOK X.prog X.w X.K X.mg X.base CX k x C ps dvs sp) (hr : Room (k + 1) X.A) (hx : ∀ σ, PassesAt CX X σ (ES σ)) (ha : PA X (e :: es) ta) (hg : Gl X x := by rfl) (hdb : (x == ("__debug__" : Str)) = false := by decide)
    (he : starEach (e :: es) X.env = (false, eval e X.env) :: starEach es X.env := by rfl) (hpl : (backTo pos (starEach es X.env)).any (·.1) = false := by rfl) :
    PE X (.Call (.Name x p) (e :: es) [] pos) (tMakeS C sp ES ta) := by
  obtain ⟨f, fd, M, hm, F, hb, _⟩ := G
  refine ⟨fun pins s σ H Q I h => ?_⟩
  refine wpAny_Call_Name_kw (ld_glob I hg hm ?_ hdb)
  refine PySem.W.callWith_K (h₀ := X.base) I.ok.mod.kin M.kp (thn (ha.run pos pins s σ H _ I h) fun us s1 ⟨vs, H1, I1, r, q⟩ => ⟨I1.kIn, ?_⟩) he hpl
  exact run_makeS M F hr hb .nil (hx σ) I1 r q
end
/-! ### isinstance of an instance -/
structure InsC (K : PySem.W.Frag) (C : Addr) : Prop where
  cl : Cls K C
  ha : PySem.W.findIn K (.ref C) "__class__" = some (some (.builtin "object.__class__"))
  hn : PySem.W.specialIn K (.builtin "object.__class__") "__get__" = some (some (.builtin "getset_descriptor.__get__"))
  ht : PySem.W.takesIn K (.builtin "object.__class__") = some true
  hm : PySem.W.mroIn K C (.type "object") = some true
theorem kit_bltn {K : PySem.W.Frag} {T : String} {D : Addr} {b : Bool} (hi : PySem.W.isClsIn K D = true) (ht : PySem.W.typeIn K (.ref D) = some (.type "type")) (e : PySem.W.subIn K (.type T) (.ref D) = some b) : PySem.W.kitOne K (.type T) (.ref D) = some b := by
  unfold PySem.W.kitOne
  rw [if_neg (by simp)]
  show (if ((PySem.W.clsIn K D).isSome && PySem.W.typeIn K (.ref D) == some (.type "type")) = true then PySem.W.subIn K (.type T) (.ref D) else none) = _
  rw [show (PySem.W.clsIn K D).isSome = true from hi, ht, if_pos (by simp)]
  exact e
section
variable {K : PySem.W.Frag} {σ : L2.St} {H : Hp} {Q : VK} {E : XK} {ES : L2.St → XK} {C a dx : Addr} {fs : List (Str × V)} {to te : TE} {ta : TA} {sp : Sp} {c y v : V} {cv : Value} {b : Bool} {d : PyData} {R : It → Hp → Prop}
theorem i_isiO (h : H a = some (.ins C dx fs)) (T : InsC K C) (kc : ClsV c cv) (e : PySem.W.kitOne K (.ref C) cv = some b) (q : Q (.bl b) H) : rIsi K [.ref a, c] H Q := ⟨_, _, _, _, b, rfl, kc, .base (.ins h T.cl T.ha T.hn T.ht T.hm), e, q⟩
theorem i_isiDO (h : At H v d) (kc : ClsV c cv) (e : PySem.W.kitOne K (.type (kindD d)) cv = some b) (q : Q (.bl b) H) : rIsi K [v, c] H Q := ⟨_, _, _, _, b, rfl, kc, h.ty K, e, q⟩
theorem i_ixO (q : to σ H fun x H1 => te σ H1 fun y H2 => ∃ a dx fs, x = .ref a ∧ H2 a = some (.ins C dx fs) ∧ sp [x, y] H2 Q E) : tIxO C sp E to te σ H Q := q
theorem i_ixOS (q : to σ H fun x H1 => te σ H1 fun y H2 => ∃ a dx fs, x = .ref a ∧ H2 a = some (.ins C dx fs) ∧ sp [x, y] H2 Q (ES σ)) : tIxOS C sp ES to te σ H Q := q
theorem i_makeS (q : ta σ H fun vs H1 => ∀ x dx, H1 x = none → H1 dx = none → dx ≠ x → sp (.ref x :: (vs ++ [])) (upd (upd H1 dx (.own x)) x (.ins C dx [])) (fun v H2 => v = .non ∧ Q (.ref x) H2) (ES σ)) : tMakeS C sp ES ta σ H Q := q
theorem i_lenO (h : H a = some (.ins C dx fs)) (q : sp [.ref a] H (fun v H' => ∃ n : Nat, v = .int (n : Int) ∧ n ≤ 100000 ∧ Q v H') E) : rLenO C sp E [.ref a] H Q := ⟨a, dx, fs, rfl, h, q⟩
theorem i_iOwn {fl : Str} (q : te σ H fun x H1 => ∃ a dx fs t zs, x = .ref a ∧ H1 a = some (.ins C dx fs) ∧ fs.lookup fl = some (.ref t) ∧ SqT K H1 t zs ∧ R (Itt K t) H1) : iOwn K C fl te σ H R := q
end
end Fg
/-! [te for j in a text if tt] -/
namespace Fg
open PySem PySem.Spec PyProof.Rows L2
section
variable {K : PySem.W.Frag} {σ : L2.St} {H : Hp} {Q : VK} {te tl : TE} {tt : TT} {j : Nat} {z : List Nat} {vs : List Nat}
theorem c_str (ha : ∀ R : VK, R (S z) H → tl σ H R) (hn : z.length ≤ 100000) (f : Nat → Bool) (v : Nat → V) (hw : ∀ x, wipe ((wipe σ vs).set j (some x)) vs = wipe σ vs)
    (ht : ∀ i c H2, z[i]? = some c → Same H H2 → ∀ QB : Bool → Hp → Prop, (∀ H3, Same H2 H3 → QB (f i) H3) → tt ((wipe σ vs).set j (some (S [c]))) H2 QB)
    (he : ∀ i c H2, z[i]? = some c → Same H H2 → f i = true → ∀ QV : VK, (∀ H3, Same H2 H3 → QV (v i) H3) → te ((wipe σ vs).set j (some (S [c]))) H2 QV)
    (q : ∀ Dl H2, H Dl = none → Same H H2 → H2 Dl = some (.lst (kept f v z.length)) → Q (.ref Dl) H2) : tLc (iAny K tl) (gName j) tt te vs σ H Q := by
  have e : (⟨z.toArray⟩ : Str).cps.size = z.length := str_len z
  refine ha _ (.inr (.inr ⟨_, rfl, fun Dl nD => ?_⟩))
  refine lc_it walk_str (Lw H Dl (kept f v)) ⟨nD, same_upd nD, upd_same⟩ (fun _ _ _ _ => True.intro) (fun i x H' H2 hi p y => ?_) (fun H' p => q Dl H' p.1 p.2.1 (by rw [e] at p; exact p.2.2))
  obtain ⟨rfl, c, hc, rfl⟩ := y
  have hc' : z[i]? = some c := by simpa using hc
  have hlt := (List.getElem?_eq_some_iff.mp hc').1
  exact ⟨hw _, lw_turn p (by omega) (fun H2 s2 => ht i c H2 hc' s2) (fun H2 s2 => he i c H2 hc' s2)⟩
/-- the signs that are kept -/
theorem c_strF (P : Nat → Bool) (ha : ∀ R : VK, R (S z) H → tl σ H R) (hn : z.length ≤ 100000) (hw : ∀ x, wipe ((wipe σ vs).set j (some x)) vs = wipe σ vs)
    (ht : ∀ c H2, c ∈ z → Same H H2 → ∀ QB : Bool → Hp → Prop, (∀ H3, Same H2 H3 → QB (P c) H3) → tt ((wipe σ vs).set j (some (S [c]))) H2 QB)
    (he : ∀ c H2, c ∈ z → Same H H2 → ∀ QV : VK, (∀ H3, Same H2 H3 → QV (S [c]) H3) → te ((wipe σ vs).set j (some (S [c]))) H2 QV)
    (q : ∀ Dl H2, H Dl = none → Same H H2 → H2 Dl = some (.lst ((z.filter P).map fun c => S [c])) → Q (.ref Dl) H2) : tLc (iAny K tl) (gName j) tt te vs σ H Q := by
  have key : ∀ n, n ≤ z.length → kept (fun i => P (z.getD i 0)) (fun i => S [z.getD i 0]) n = ((z.take n).filter P).map fun c => S [c] := fun n => by
    induction n with
    | zero => intro _; rfl
    | succ n ih =>
      intro hn
      have hg : z[n]? = some (z.getD n 0) := by rw [List.getD_eq_getElem?_getD, List.getElem?_eq_getElem (by omega)]; rfl
      have tk : z.take (n + 1) = z.take n ++ [z.getD n 0] := by rw [List.take_succ, hg]; rfl
      rw [tk, List.filter_append, List.map_append, ← ih (by omega)]
      cases hp : P (z.getD n 0) with
      | true => rw [kept_yes (f := fun i => P (z.getD i 0)) hp, List.filter_cons_of_pos hp]; rfl
      | false => rw [kept_no (f := fun i => P (z.getD i 0)) hp, List.filter_cons_of_neg (by rw [hp]; decide)]; simp
  have gd : ∀ {i c}, z[i]? = some c → z.getD i 0 = c := fun h => by rw [List.getD_eq_getElem?_getD, h]; rfl
  refine c_str ha hn (fun i => P (z.getD i 0)) (fun i => S [z.getD i 0]) hw (fun i c H2 hc s QB k => ht c H2 (List.mem_of_getElem? hc) s QB (by rw [gd hc] at k; exact k))
    (fun i c H2 hc s _ QV k => he c H2 (List.mem_of_getElem? hc) s QV (by rw [gd hc] at k; exact k)) fun Dl H2 n s e => q Dl H2 n s ?_
  rw [key _ (Nat.le_refl _), List.take_length] at e
  exact e
end
end Fg
/-! Dicts by what they answer: keys that are texts, keys that are pairs of numbers. -/
namespace Fg
open PySem PySem.Spec PyProof.Rows L2
abbrev kS (l : List Nat) : Key := .inr ⟨l.toArray⟩
theorem kS_inj {l m : List Nat} : kS l = kS m ↔ l = m := by
  constructor
  · intro h
    exact List.toArray_inj (congrArg PySem.Str.cps (Sum.inr.inj h))
  · rintro rfl; rfl
theorem kV_S (l : List Nat) : kV (kS l) = S l := rfl
theorem putK_len {κ : Type} [DecidableEq κ] (kvs : List (κ × V)) (k : κ) (v : V) : (putK kvs k v).length ≤ kvs.length + 1 := by
  unfold putK
  split
  · rw [List.length_map]; omega
  · rw [List.length_append, List.length_singleton]; exact Nat.le_refl _
/-- at a a dict of at most n entries, which answers g -/
def TD (n : Nat) (H : Hp) (a : Addr) (g : List Nat → Option V) : Prop := ∃ kvs : List (Key × V), H a = some (.dK kvs) ∧ kvs.length ≤ n ∧ ∀ l, valV kvs (kS l) = g l
def PD (n : Nat) (H : Hp) (a : Addr) (g : Int → Int → Option V) : Prop := ∃ kvs : List (List Key × V), H a = some (.dT kvs) ∧ kvs.length ≤ n ∧ ∀ i j, valV kvs [.inl i, .inl j] = g i j
def setT (g : List Nat → Option V) (k : List Nat) (v : V) : List Nat → Option V := fun l => if l = k then some v else g l
def setP (g : Int → Int → Option V) (i j : Int) (v : V) : Int → Int → Option V := fun a b => if a = i ∧ b = j then some v else g a b
section
variable {n : Nat} {H H' : Hp} {a b : Addr} {g : List Nat → Option V} {f : Int → Int → Option V} {l : List Nat} {v : V} {Q : VK} {i j : Int}
theorem TD.at (h : TD n H a g) (e : H' a = H a) : TD n H' a g := by
  obtain ⟨kvs, h1, h2⟩ := h
  exact ⟨kvs, e.trans h1, h2⟩
theorem PD.at (h : PD n H a f) (e : H' a = H a) : PD n H' a f := by
  obtain ⟨kvs, h1, h2⟩ := h
  exact ⟨kvs, e.trans h1, h2⟩
theorem TD.mono (h : TD n H a g) (s : Same H H') : TD n H' a g := by
  obtain ⟨kvs, h1, h2⟩ := h
  exact ⟨kvs, s _ _ h1, h2⟩
theorem PD.mono (h : PD n H a f) (s : Same H H') : PD n H' a f := by
  obtain ⟨kvs, h1, h2⟩ := h
  exact ⟨kvs, s _ _ h1, h2⟩
theorem TD.some (h : TD n H a g) : ∃ o, H a = some o := by
  obtain ⟨kvs, h1, h2⟩ := h
  exact ⟨_, h1⟩
theorem PD.some (h : PD n H a f) : ∃ o, H a = some o := by
  obtain ⟨kvs, h1, h2⟩ := h
  exact ⟨_, h1⟩
theorem TD.new : TD 0 (upd H a (.dK [])) a (fun _ => none) := ⟨[], upd_same, Nat.le_refl _, fun _ => rfl⟩
theorem PD.new : PD 0 (upd H a (.dT [])) a (fun _ _ => none) := ⟨[], upd_same, Nat.le_refl _, fun _ _ => rfl⟩
theorem td_get {P : V → Prop} (h : TD n H a g) (e : g l = some v) (q : P v) : ∃ a' v', V.ref a = .ref a' ∧ DGet H a' (S l) (some v') ∧ P v' := by
  obtain ⟨kvs, h1, h2, h3⟩ := h
  refine ⟨a, v, rfl, ?_, q⟩
  have := DGet.k (k := kS l) h1
  rw [h3, e] at this
  exact this
theorem td_ask {P : Option V → Prop} (h : TD n H a g) (q : P (g l)) : ∃ a' o, V.ref a = .ref a' ∧ DGet H a' (S l) o ∧ P o := by
  obtain ⟨kvs, h1, h2, h3⟩ := h
  refine ⟨a, g l, rfl, ?_, q⟩
  have := DGet.k (k := kS l) h1
  rw [h3] at this
  exact this
theorem td_put {P : Hp → Prop} (h : TD n H a g) (hn : n ≤ 100000) (q : ∀ o, TD (n + 1) (upd H a o) a (setT g l v) → P (upd H a o)) : ∃ a' H4, V.ref a = .ref a' ∧ DPut H a' (S l) v H4 ∧ P H4 := by
  obtain ⟨kvs, h1, h2, h3⟩ := h
  refine ⟨a, _, rfl, DPut.k (k := kS l) h1 (by rw [sizeLine_eq]; omega), q _ ⟨_, upd_same, Nat.le_trans (putK_len _ _ _) (by omega), fun m => ?_⟩⟩
  rw [valV_put, h3]
  unfold setT
  by_cases e : m = l
  · rw [if_pos e, if_pos (by rw [e])]
  · rw [if_neg e, if_neg (fun z => e (kS_inj.mp z))]
theorem pd_get (h : PD n H a f) (hb : H b = some (.tup [.int i, .int j])) {P : V → Prop} (e : f i j = some v) (q : P v) : ∃ a' v', V.ref a = .ref a' ∧ DGet H a' (.ref b) (some v') ∧ P v' := by
  obtain ⟨kvs, h1, h2, h3⟩ := h
  refine ⟨a, v, rfl, ?_, q⟩
  have := DGet.t (k := [.inl i, .inl j]) h1 hb
  rw [h3, e] at this
  exact this
theorem pd_put {P : Hp → Prop} (h : PD n H a f) (hb : H b = some (.tup [.int i, .int j])) (hn : n ≤ 100000) (q : ∀ o, PD (n + 1) (upd H a o) a (setP f i j v) → P (upd H a o)) : ∃ a' H4, V.ref a = .ref a' ∧ DPut H a' (.ref b) v H4 ∧ P H4 := by
  obtain ⟨kvs, h1, h2, h3⟩ := h
  refine ⟨a, _, rfl, DPut.t (k := [.inl i, .inl j]) h1 hb (by rw [sizeLine_eq]; omega), q _ ⟨_, upd_same, Nat.le_trans (putK_len _ _ _) (by omega), fun x y => ?_⟩⟩
  rw [valV_put, h3]
  unfold setP
  by_cases e : x = i ∧ y = j
  · rw [if_pos (by rw [e.1, e.2]), if_pos e]
  · rw [if_neg (fun z => e (by injection z with z1 z2; injection z2 with z2 z3; exact ⟨Sum.inl.inj z1, Sum.inl.inj z2⟩)), if_neg e]
end
section
variable {σ : L2.St} {H : Hp} {Q : VK} {td ty tv : TE} {D : Ends}
theorem i_dget (q : td σ H fun x H1 => ty σ H1 fun y H2 => ∃ a v, x = .ref a ∧ DGet H2 a y (some v) ∧ Q v H2) : tDGet td ty σ H Q := q
theorem i_din (q : ty σ H fun y H1 => td σ H1 fun x H2 => ∃ a o, x = .ref a ∧ DGet H2 a y o ∧ Q (.bl o.isSome) H2) : tDIn ty td σ H Q := q
theorem i_dnotin (q : ty σ H fun y H1 => td σ H1 fun x H2 => ∃ a o, x = .ref a ∧ DGet H2 a y o ∧ Q (.bl (!o.isSome)) H2) : tDNotIn ty td σ H Q := q
theorem i_dput (q : tv σ H fun v H1 => td σ H1 fun x H2 => ty σ H2 fun y H3 => ∃ a H4, x = .ref a ∧ DPut H3 a y v H4 ∧ D.nx σ H4) : sDPut td ty tv D σ H := q
theorem i_dnewK (q : ∀ p, H p = none → Q (.ref p) (upd H p (.dK []))) : tDNewK σ H Q := q
theorem i_dnewT (q : ∀ p, H p = none → Q (.ref p) (upd H p (.dT []))) : tDNewT σ H Q := q
/-- {l: v}, texts -/
theorem i_disp1 {l : List Nat} {v : V} {tk tv : TE} (hk : ∀ H (R : VK), R (S l) H → tk σ H R) (hv : ∀ H (R : VK), R v H → tv σ H R) (q : ∀ p o, H p = none → TD 1 (upd H p o) p (setT (fun _ => none) l v) → Q (.ref p) (upd H p o)) : tDisp [(tk, tv)] σ H Q := by
  intro p np
  refine hk _ _ (hv _ _ ⟨upd_same, [(kS l, v)], rfl, (by decide : 1 ≤ 15), ?_⟩)
  rw [upd_upd]
  refine q p _ np ⟨_, upd_same, Nat.le_refl 1, fun m => ?_⟩
  show valV (putK [] (kS l) v) (kS m) = _
  rw [valV_put]
  unfold setT
  by_cases e : m = l
  · rw [if_pos e, if_pos (by rw [e])]
  · rw [if_neg e, if_neg (fun z => e (kS_inj.mp z))]
    rfl
end
/-! a value as a test, the written part named -/
def tTru (K : PySem.W.Frag) (te : TE) : TT := fun σ H Q => te σ H fun x H' => ∃ k, TruV K x H' k ∧ Q k H'
section
variable {K : PySem.W.Frag} {σ : L2.St} {H : Hp} {te : TE} {a : Addr} {xs : List V} {l : List Nat} {P : Bool → Prop} {Q : Bool → Hp → Prop}
theorem i_tru (q : te σ H fun x H' => ∃ k, TruV K x H' k ∧ Q k H') : tTru K te σ H Q := q
theorem i_truL (h : H a = some (.lst xs)) (q : P (!xs.isEmpty)) : ∃ k, TruV K (.ref a) H k ∧ P k := ⟨_, .inl ⟨xs, .inl (.inl h), rfl⟩, q⟩
theorem i_truL0 (h : H a = some (.lst [])) (q : P false) : ∃ k, TruV K (.ref a) H k ∧ P k := ⟨_, .inl ⟨[], .inl (.inl h), rfl⟩, q⟩
theorem i_truL1 (h : H a = some (.lst xs)) (hne : xs ≠ []) (q : P true) : ∃ k, TruV K (.ref a) H k ∧ P k := ⟨_, .inl ⟨xs, .inl (.inl h), by cases xs with
  | nil => exact absurd rfl hne
  | cons _ _ => rfl⟩, q⟩
theorem i_truT (h : H a = some (.tup xs)) (q : P (!xs.isEmpty)) : ∃ k, TruV K (.ref a) H k ∧ P k := ⟨_, .inr (.inl ⟨xs, .inl (.inl h), rfl⟩), q⟩
end
theorem ptTruth (K : PySem.W.Frag) {X : Cx} {e : Expr} {te : TE} (he : PE X e te) (h1 : ∀ whole, isTrue e X.env whole = (do let v ← whole; standAt e.pos; holding [v] (truthy v))) (h : X.K = K := by rfl) : PT X e (tTru K te) := h ▸ pt_truth he h1
end Fg
/-! {text: value, ..}, d.get(text). -/
namespace Fg
open PySem PySem.Spec PyProof.Rows L2
def lookT (ps : List (List Nat × V)) : List Nat → Option V := ps.foldl (fun g p => setT g p.1 p.2) fun _ => none
section
variable {σ : L2.St} {H : Hp} {Q : VK} {td ty : TE} {a : Addr} {n : Nat} {g : List Nat → Option V} {l : List Nat}
theorem pairs_const : ∀ (ps : List (List Nat × V)) (H : Hp) (R : List (V × V) → Hp → Prop), R (ps.map fun p => (S p.1, p.2)) H → tPairs (ps.map fun p => (tC (S p.1), tC p.2)) σ H R
  | [], _, _, h => h
  | p :: r, H, R, h => pairs_const r H _ h
theorem merge_look : ∀ (ps : List (List Nat × V)) (kvs : List (Key × V)) (g : List Nat → Option V), (∀ l, valV kvs (kS l) = g l) → ∀ l, valV (mergeK kvs (ps.map fun p => (kS p.1, p.2))) (kS l) = ps.foldl (fun g p => setT g p.1 p.2) g l
  | [], kvs, g, h, l => h l
  | p :: r, kvs, g, h, l => by
    refine merge_look r (putK kvs (kS p.1) p.2) (setT g p.1 p.2) (fun m => ?_) l
    rw [valV_put, h]
    unfold setT
    by_cases e : m = p.1
    · rw [if_pos e, if_pos (by rw [e])]
    · rw [if_neg e, if_neg (fun z => e (kS_inj.mp z))]
theorem i_dispT (ps : List (List Nat × V)) (h15 : ps.length ≤ 15) (q : ∀ p o, H p = none → TD 15 (upd H p o) p (lookT ps) → Q (.ref p) (upd H p o)) : tDisp (ps.map fun p => (tC (S p.1), tC p.2)) σ H Q := by
  intro p np
  refine pairs_const ps _ _ ⟨upd_same, ps.map fun p => (kS p.1, p.2), by rw [List.map_map]; rfl, by rw [List.length_map]; exact h15, ?_⟩
  rw [upd_upd]
  refine q p _ np ⟨_, upd_same, ?_, fun l => merge_look ps [] (fun _ => none) (fun _ => rfl) l⟩
  have := length_mergeK (ps.map fun p => (kS p.1, p.2)) []
  rw [List.length_map] at this
  exact Nat.le_trans this (by simpa using h15)
theorem i_dget1 (q : td σ H fun x H1 => ∃ a, x = .ref a ∧ IsD H1 a ∧ ty σ H1 fun y H2 => ∃ o, DGet H2 a y o ∧ Q (o.getD .non) H2) : tDGet1 td ty σ H Q := q
theorem td_isD (h : TD n H a g) : IsD H a := by
  obtain ⟨kvs, h1, _⟩ := h
  exact .inl ⟨kvs, .inl h1⟩
theorem td_get1 {P : Option V → Prop} (h : TD n H a g) (q : P (g l)) : ∃ o, DGet H a (S l) o ∧ P o := by
  obtain ⟨kvs, h1, h2, h3⟩ := h
  have := DGet.k (k := kS l) h1
  rw [h3] at this
  exact ⟨g l, this, q⟩
end
end Fg
/-! A datum == a text. -/
namespace Fg
open PySem PySem.Spec PyProof.Rows L2
def eqS : PyData → List Nat → Bool
  | .str x, l => decide (x.cps.toList = l)
  | _, _ => false
theorem eqS_str (m l : List Nat) : eqS (dS m) l = decide (m = l) := rfl
theorem strOk_small {l : List Nat} (h : ∀ c ∈ l, c < 0x110000) : PyData.strOk ⟨l.toArray⟩ = true := by
  show (⟨l.toArray⟩ : Str).cps.all (· < 0x110000) = true
  rw [Array.all_eq_true_iff_forall_mem]
  intro c hc
  exact decide_eq_true (h c (by simpa using hc))
theorem small_strOk {l : List Nat} (h : PyData.strOk ⟨l.toArray⟩ = true) : ∀ c ∈ l, c < 0x110000 := by
  have h' : (⟨l.toArray⟩ : Str).cps.all (· < 0x110000) = true := h
  rw [Array.all_eq_true_iff_forall_mem] at h'
  intro c hc
  exact of_decide_eq_true (h' c (by simpa using hc))
theorem eqS_no {d : PyData} {l : List Nat} (h : eqS d l = false) : d ≠ dS l := fun z => by
  rw [z, eqS_str, decide_eq_true rfl] at h
  cases h
theorem eqS_yes {d : PyData} {l : List Nat} (h : eqS d l = true) : d = dS l := by
  cases d with
  | str x =>
    have : x.cps.toList = l := of_decide_eq_true h
    subst this
    rfl
  | _ => cases h
section
variable {K : PySem.W.Frag} {H : Hp} {Q : VK} {v : V} {d : PyData} {l : List Nat}
theorem i_eqDS (h : At H v d) (c : d.canLay0 = true) (dp : d.depth ≤ 64) (ls : ∀ c ∈ l, c < 0x110000) (q : Q (.bl (eqS d l)) H) : eqP K v (S l) H Q := by
  have sh : SeqAt.shaped d = true := by
    unfold SeqAt.shaped
    rw [c, decide_eq_true dp]; rfl
  have sl : SeqAt.shaped (dS l) = true := by
    unfold SeqAt.shaped
    rw [Bool.and_eq_true]
    exact ⟨strOk_small ls, rfl⟩
  cases d with
  | str x =>
    obtain ⟨m, rfl, rfl, _⟩ := h.strl
    exact i_eq_str q
  | none => exact i_eq_data (h.dp K _ _ rfl) (.str _) sh sl (r := false) rfl q
  | bool b => exact i_eq_data (h.dp K _ _ rfl) (.str _) sh sl (r := false) rfl q
  | int i => exact i_eq_data (h.dp K _ _ rfl) (.str _) sh sl (r := false) rfl q
  | list ds =>
    have nd : (PyData.list ds).hasDict = false := PyData.hasDict_of_canLay _ c
    exact i_eq_data (h.dp K _ _ nd) (.str _) sh sl (r := false) rfl q
  | tuple ds =>
    have nd : (PyData.tuple ds).hasDict = false := PyData.hasDict_of_canLay _ c
    exact i_eq_data (h.dp K _ _ nd) (.str _) sh sl (r := false) rfl q
  | dict kvs => cases c
end
end Fg
/-! x in [texts] -/
namespace Fg
open PySem PySem.Spec PyProof.Rows L2
theorem eqV_S (m l : List Nat) : eqV (S m) (S l) = decide (m = l) := by
  show ((⟨m.toArray⟩ : Str) == ⟨l.toArray⟩) = _
  rw [Bool.eq_iff_iff]
  simp
theorem inV_S (l : List Nat) : ∀ ms : List (List Nat), inV (S l) (ms.map S) = decide (l ∈ ms)
  | [] => by simp [inV]
  | m :: r => by
    have ih := inV_S l r
    unfold inV at ih ⊢
    rw [List.map_cons, List.any_cons, ih, eqV_S, Bool.eq_iff_iff, Bool.or_eq_true, decide_eq_true_eq, decide_eq_true_eq, decide_eq_true_eq, List.mem_cons]
    exact ⟨fun h => h.imp_left Eq.symm, fun h => h.imp_left Eq.symm⟩
theorem flat_S : ∀ ms : List (List Nat), (ms.map S).all flatV = true
  | [] => rfl
  | m :: r => by rw [List.map_cons, List.all_cons, flat_S r]; rfl
section
variable {K : PySem.W.Frag} {H : Hp} {Q : VK} {p : Addr} {ms : List (List Nat)} {l : List Nat} {v : V}
theorem i_inS (h : H p = some (.lst (ms.map S))) (q : Q (.bl (decide (l ∈ ms))) H) : inP K (S l) (.ref p) H Q :=
  .inr ⟨p, _, rfl, .inl (.inl (.inl h)), rfl, flat_S ms, by rw [if_neg (by decide), inV_S]; exact q⟩
theorem i_ninS (h : H p = some (.lst (ms.map S))) (q : Q (.bl (!decide (l ∈ ms))) H) : notInP K (S l) (.ref p) H Q :=
  .inr ⟨p, _, rfl, .inl (.inl (.inl h)), rfl, flat_S ms, by rw [if_pos rfl, inV_S]; exact q⟩
end
end Fg
/-! [te for j in o], o an instance whose __iter__ walks a tuple. -/
namespace Fg
open PySem PySem.Spec PyProof.Rows L2
section
variable {K : PySem.W.Frag} {σ : L2.St} {A G : Hp} {Q : VK} {te tl : TE} {j : Nat} {p dx t C : Addr} {fs : List (Str × V)} {fl : Str} {xs : List V} {vs : List Nat}
theorem c_ownD {ds : List PyData} (sa : Same A G) (ha : ∀ R : VK, R (.ref p) G → tl σ G R) (hp : G p = some (.ins C dx fs)) (hl : fs.lookup fl = some (.ref t)) (hx : SqT K G t xs) (hd : AtAll A xs ds) (hn : xs.length ≤ 10000) (f : PyData → PyData) (hw : ∀ x, wipe ((wipe σ vs).set j (some x)) vs = wipe σ vs)
    (he : ∀ x d A1 G1, d ∈ ds → At A1 x d → Ext A G A1 G1 → ∀ QV : VK, (∀ A2 G2 v, Ext A1 G1 A2 G2 → At A2 v (f d) → QV v G2) → te ((wipe σ vs).set j (some x)) G1 QV)
    (q : ∀ Dl A1 G1 l, Ext A G A1 G1 → G1 Dl = some (.lst l) → A1 Dl = some (.lst l) → AtAll A1 l (ds.map f) → l.length = ds.length → Q (.ref Dl) G1) : tLc (iOwn K C fl tl) (gName j) tYes te vs σ G Q := by
  have hl' := hd.len
  have e1 : (List.range ds.length).map (fun i => f (ds.getD i .none)) = ds.map f := by
    refine List.ext_getElem? fun i => ?_
    rw [List.getElem?_map, List.getElem?_map]
    by_cases h : i < ds.length
    · rw [List.getElem?_range h, Option.map_some, List.getD_eq_getElem?_getD, List.getElem?_eq_getElem h]
      rfl
    · rw [List.getElem?_eq_none (by simpa using h), List.getElem?_eq_none (by omega)]
      rfl
  refine ha _ ⟨p, dx, fs, t, xs, rfl, hp, hl, hx, fun Dl nD => ?_⟩
  refine lc_tup (xs := xs) (Cw A G Dl fun i => f (ds.getD i .none)) (cw_start sa nD) (fun i H' hi p => ?_) (fun i x H' hi p => ?_) (fun H' p => ?_)
  · obtain ⟨_, _, _, x, _⟩ := p
    exact Same.tup x.gg hx
  · have hlt := (List.getElem?_eq_some_iff.mp hi).1
    obtain ⟨d, hd1, hd2⟩ := hd.get hi
    refine ⟨hw _, cw_turn p (by omega) fun A1 G1 y QV k => he x d A1 G1 (List.mem_of_getElem? hd1) (hd2.same y.aa) y QV fun A2 G2 v z hv => k A2 G2 v z ?_⟩
    rw [List.getD_eq_getElem?_getD, hd1]
    exact hv
  · rw [hl'] at p
    obtain ⟨A1, y, _, l, e, ea, al, ll⟩ := cw_end p sa (by omega)
    rw [e1] at al
    exact q Dl A1 H' l y e ea al ll
theorem i_ne_same {H : Hp} {x : Str} (q : Q (.bl false) H) : neP K (.str x) (.str x) H Q := by
  show neP K (S x.cps.toList) (S x.cps.toList) H Q
  refine i_ne_str ?_
  rw [decide_eq_true rfl]
  exact q
theorem i_eq_same {H : Hp} {x : Str} (q : Q (.bl true) H) : eqP K (.str x) (.str x) H Q := by
  show eqP K (S x.cps.toList) (S x.cps.toList) H Q
  refine i_eq_str ?_
  rw [decide_eq_true rfl]
  exact q
end
end Fg
/-! [line[:] for line in a list of lists]; data without lists, behind changes of lists. -/
namespace Fg
open PySem PySem.Spec PyProof.Rows L2
section
variable {K : PySem.W.Frag} {σ : L2.St} {A G H H' : Hp} {Q : VK} {te tl : TE} {j : Nat} {a : Addr} {xs : List V} {vs : List Nat}
def CpW (G : Hp) (ys : Nat → List V) (Dl : Addr) (i : Nat) (H' : Hp) : Prop := Same G H' ∧ ∃ l, H' Dl = some (.lst l) ∧ l.length = i ∧ ∀ k < i, ∃ c, l[k]? = some (.ref c) ∧ G c = none ∧ c ≠ Dl ∧ H' c = some (.lst (ys k))
theorem c_copy (ys : Nat → List V) (ha : ∀ R : VK, R (.ref a) G → tl σ G R) (hx : SqL K G a xs) (hn : xs.length ≤ 10000)
    (hl : ∀ i x, xs[i]? = some x → ∃ b, x = .ref b ∧ G b = some (.lst (ys i))) (hw : ∀ x, wipe ((wipe σ vs).set j (some x)) vs = wipe σ vs)
    (he : ∀ i b G1, xs[i]? = some (.ref b) → G1 b = some (.lst (ys i)) → ∀ QV : VK, (∀ p, G1 p = none → QV (.ref p) (upd G1 p (.lst (ys i)))) → te ((wipe σ vs).set j (some (.ref b))) G1 QV)
    (q : ∀ Dl G1 l, G Dl = none → Same G G1 → G1 Dl = some (.lst l) → l.length = xs.length → (∀ k < xs.length, ∃ c, l[k]? = some (.ref c) ∧ G c = none ∧ c ≠ Dl ∧ G1 c = some (.lst (ys k))) → Q (.ref Dl) G1) : tLc (iAny K tl) (gName j) tYes te vs σ G Q := by
  refine ha _ (.inl ⟨a, xs, rfl, hx, fun Dl nD => ?_⟩)
  refine lc_list (xs := xs) (CpW G ys Dl) ⟨same_upd nD, [], upd_same, rfl, fun k hk => absurd hk (Nat.not_lt_zero _)⟩ (fun i H' hi p => p.1.seq hx) (fun i x H' hi p => ?_) (fun H' p => ?_)
  · have hlt := (List.getElem?_eq_some_iff.mp hi).1
    obtain ⟨b, rfl, hb⟩ := hl i x hi
    refine ⟨hw _, i_yes ?_⟩
    rw [if_pos rfl]
    obtain ⟨s, l, hD, ll, hk⟩ := p
    refine he i b H' hi (s _ _ hb) _ fun p np => ?_
    have pD : Dl ≠ p := ne_of_none hD np
    refine ⟨l, (upd_ne pD).trans hD, by rw [ll]; exact Nat.lt_of_lt_of_le hlt (Nat.le_trans hn (by decide)), Same.upd (s.trans (same_upd np)) nD, l ++ [.ref p], upd_same, by rw [List.length_append, ll]; rfl, fun k hki => ?_⟩
    rcases Nat.lt_or_ge k i with h | h
    · obtain ⟨c, e1, e2, e3, e4⟩ := hk k h
      exact ⟨c, by rw [List.getElem?_append_left (by omega)]; exact e1, e2, e3, (upd_ne e3).trans ((upd_ne (ne_of_none e4 np)).trans e4)⟩
    · have : k = i := by omega
      subst this
      exact ⟨p, by rw [List.getElem?_append_right (by omega), ll, Nat.sub_self]; rfl, s.free np, pD.symm, (upd_ne pD.symm).trans upd_same⟩
  · obtain ⟨s, l, hD, ll, hk⟩ := p
    exact q Dl H' l nD s hD ll hk
theorem atAll_of : ∀ {l : List V} {ds : List PyData}, l.length = ds.length → (∀ (i : Nat) (v : V) (d : PyData), l[i]? = some v → ds[i]? = some d → At H v d) → AtAll H l ds
  | [], [], _, _ => .nil
  | v :: l, d :: ds, h, k => .cons (k 0 v d rfl rfl) (atAll_of (by simpa using h) fun i v d h1 h2 => k (i + 1) v d h1 h2)
  | [], _ :: _, h, _ => by simp at h
  | _ :: _, [], h, _ => by simp at h
/-- all tuples stay -/
def SmT (H H' : Hp) : Prop := ∀ b xs, H b = some (.tup xs) → H' b = some (.tup xs)
theorem Same.smT (s : Same H H') : SmT H H' := fun b xs e => s _ _ e
theorem SmT.trans {H'' : Hp} (s : SmT H H') (t : SmT H' H'') : SmT H H'' := fun b xs e => t _ _ (s _ _ e)
theorem SmT.put {p : Addr} {xs : List V} {o : HO} (e : H p = some (.lst xs)) : SmT H (upd H p o) := fun b ys h => by
  rw [upd_ne (fun z => by rw [z, e] at h; cases h)]
  exact h
mutual
def noL : PyData → Bool
  | .list _ => false
  | .dict _ => false
  | .tuple ds => noLs ds
  | .none => true
  | .bool _ => true
  | .int _ => true
  | .str _ => true
def noLs : List PyData → Bool
  | [] => true
  | d :: r => noL d && noLs r
end
theorem noLs_of : ∀ {ds : List PyData}, (∀ d ∈ ds, noL d = true) → noLs ds = true
  | [], _ => rfl
  | d :: r, h => by
    show (noL d && noLs r) = true
    rw [h d (List.mem_cons_self ..), noLs_of fun e he => h e (List.mem_cons_of_mem _ he)]
    rfl
mutual
theorem At.smT (s : SmT H H') : ∀ (d : PyData) (v : V), At H v d → noL d = true → At H' v d
  | .none, _, h, _ => by cases h; exact .non
  | .bool b, _, h, _ => by cases h; exact .bl b
  | .int i, _, h, _ => by cases h; exact .int i
  | .str x, _, h, _ => by
    cases h with
    | str l hl => exact .str l hl
  | .list ds, _, _, n => by cases n
  | .tuple ds, _, h, n => by
    cases h with
    | tup e l a => exact .tup (s _ _ e) l (AtAll.smT s ds _ a n)
  | .dict kvs, _, _, n => by cases n
theorem AtAll.smT (s : SmT H H') : ∀ (ds : List PyData) (vs : List V), AtAll H vs ds → noLs ds = true → AtAll H' vs ds
  | [], _, h, _ => by cases h; exact .nil
  | d :: ds, _, h, n => by
    have n' : (noL d && noLs ds) = true := n
    rw [Bool.and_eq_true] at n'
    cases h with
    | cons a b => exact .cons (At.smT s d _ a n'.1) (AtAll.smT s ds _ b n'.2)
end
theorem At.keep {v : V} {d : PyData} (h : At H v d) (s : SmT H H') (n : noL d = true) : At H' v d := At.smT s d v h n
theorem AtAll.keep {vs : List V} {ds : List PyData} (h : AtAll H vs ds) (s : SmT H H') (n : noLs ds = true) : AtAll H' vs ds := AtAll.smT s ds vs h n
/-- all but one -/
def wo (H : Hp) (p : Addr) : Hp := fun b => if b = p then none else H b
theorem wo_same {p : Addr} : wo H p p = none := if_pos rfl
theorem wo_ne {p b : Addr} (h : b ≠ p) : wo H p b = H b := if_neg h
theorem wo_sub {p : Addr} : Same (wo H p) H := fun b o e => by
  unfold wo at e
  split at e
  · cases e
  · exact e
theorem SmT.wo {p : Addr} {xs : List V} (e : H p = some (.lst xs)) : SmT H (wo H p) := fun b ys h => by
  rw [wo_ne (fun z => by rw [z, e] at h; cases h)]
  exact h
end
end Fg
namespace K42
open PySem PySem.Spec PyProof.Rows L2 Fg
def topS (i : Nat) : Stmt := PySem.Challenge.pw_falseglim_k42_orders_judged.main.body.getD i (.Pass ⟨0, 0, 0, 0⟩)
abbrev s_is_integer : Stmt := topS 10
theorem sc_is_integer : FnScope ["thing", "low", "high"] ["thing", "low", "high"] (defScope s_is_integer) := ⟨rfl, rfl, rfl, by decide +kernel, rfl, by decide +kernel, by decide +kernel⟩
abbrev s_deep : Stmt := topS 11
theorem sc_deep : FnScope ["thing", "level", "part"] ["thing", "level"] (defScope s_deep) := ⟨rfl, rfl, rfl, by decide +kernel, rfl, by decide +kernel, by decide +kernel⟩
abbrev s_is_mark : Stmt := topS 12
theorem sc_is_mark : FnScope ["thing", "sign"] ["thing"] (defScope s_is_mark) := ⟨rfl, rfl, rfl, by decide +kernel, rfl, by decide +kernel, by decide +kernel⟩
abbrev s_is_name : Stmt := topS 13
theorem sc_is_name : FnScope ["thing"] ["thing"] (defScope s_is_name) := ⟨rfl, rfl, rfl, by decide +kernel, rfl, by decide +kernel, by decide +kernel⟩
abbrev s_is_signs : Stmt := topS 16
theorem sc_is_signs : FnScope ["thing", "sign"] ["thing"] (defScope s_is_signs) := ⟨rfl, rfl, rfl, by decide +kernel, rfl, by decide +kernel, by decide +kernel⟩
abbrev s_is_order : Stmt := topS 17
theorem sc_is_order : FnScope ["thing", "many", "word"] ["thing", "many"] (defScope s_is_order) := ⟨rfl, rfl, rfl, by decide +kernel, rfl, by decide +kernel, by decide +kernel⟩
abbrev s_Orders___init__ : Stmt := inClass (topS 18) 0
theorem sc_Orders___init__ : FnScope ["self", "lines", "told", "number", "order"] ["self", "lines"] (defScope s_Orders___init__) := ⟨rfl, rfl, rfl, by decide +kernel, rfl, by decide +kernel, by decide +kernel⟩
abbrev s_Orders___len__ : Stmt := inClass (topS 18) 1
theorem sc_Orders___len__ : FnScope ["self"] ["self"] (defScope s_Orders___len__) := ⟨rfl, rfl, rfl, by decide +kernel, rfl, by decide +kernel, by decide +kernel⟩
abbrev s_Orders___iter__ : Stmt := inClass (topS 18) 2
theorem sc_Orders___iter__ : FnScope ["self"] ["self"] (defScope s_Orders___iter__) := ⟨rfl, rfl, rfl, by decide +kernel, rfl, by decide +kernel, by decide +kernel⟩
abbrev s_Orders___getitem__ : Stmt := inClass (topS 18) 3
theorem sc_Orders___getitem__ : FnScope ["self", "number"] ["self", "number"] (defScope s_Orders___getitem__) := ⟨rfl, rfl, rfl, by decide +kernel, rfl, by decide +kernel, by decide +kernel⟩
abbrev s_Orders___eq__ : Stmt := inClass (topS 18) 4
theorem sc_Orders___eq__ : FnScope ["self", "other"] ["self", "other"] (defScope s_Orders___eq__) := ⟨rfl, rfl, rfl, by decide +kernel, rfl, by decide +kernel, by decide +kernel⟩
abbrev s_L_draw : Stmt := topS 20
theorem sc_L_draw : FnScope ["_law_script", "_law_cells", "_law_cell"] ["_law_script"] (defScope s_L_draw) := ⟨rfl, rfl, rfl, by decide +kernel, rfl, by decide +kernel, by decide +kernel⟩
abbrev s_L_mix : Stmt := topS 21
theorem sc_L_mix : FnScope ["_law_cell", "_law_turn", "_law_one", "_law_two"] ["_law_cell", "_law_turn"] (defScope s_L_mix) := ⟨rfl, rfl, rfl, by decide +kernel, rfl, by decide +kernel, by decide +kernel⟩
abbrev s_L_pick : Stmt := topS 22
theorem sc_L_pick : FnScope ["_law_draw_here", "_law_many", "_law_cell", "_law_digit", "_law_found"] ["_law_draw_here", "_law_many"] (defScope s_L_pick) := ⟨rfl, rfl, rfl, by decide +kernel, rfl, by decide +kernel, by decide +kernel⟩
abbrev s_L_is_int : Stmt := topS 23
theorem sc_L_is_int : FnScope ["_law_thing"] ["_law_thing"] (defScope s_L_is_int) := ⟨rfl, rfl, rfl, by decide +kernel, rfl, by decide +kernel, by decide +kernel⟩
abbrev s_L_name : Stmt := topS 24
theorem sc_L_name : FnScope ["_law_draw_here", "_law_used", "_law_pool", "_law_one", "_law_two"] ["_law_draw_here", "_law_used"] (defScope s_L_name) := ⟨rfl, rfl, rfl, by decide +kernel, rfl, by decide +kernel, by decide +kernel⟩
abbrev s_L_names : Stmt := topS 25
theorem sc_L_names : FnScope ["_law_draw_here", "_law_many", "_law_names_here", "_law_turn"] ["_law_draw_here", "_law_many"] (defScope s_L_names) := ⟨rfl, rfl, rfl, by decide +kernel, rfl, by decide +kernel, by decide +kernel⟩
abbrev s_L_signs : Stmt := topS 26
theorem sc_L_signs : FnScope ["_law_draw_here", "_law_kind", "_law_number", "_law_place"] ["_law_draw_here"] (defScope s_L_signs) := ⟨rfl, rfl, rfl, by decide +kernel, rfl, by decide +kernel, by decide +kernel⟩
abbrev s_L_order : Stmt := topS 27
theorem sc_L_order : FnScope ["_law_draw_here", "_law_many", "_law_names_here", "_law_top", "_law_kind"] ["_law_draw_here", "_law_many", "_law_names_here", "_law_top"] (defScope s_L_order) := ⟨rfl, rfl, rfl, by decide +kernel, rfl, by decide +kernel, by decide +kernel⟩
abbrev s_L_form : Stmt := topS 28
theorem sc_L_form : FnScope ["_law_word", "_law_forms"] ["_law_word"] (defScope s_L_form) := ⟨rfl, rfl, rfl, by decide +kernel, rfl, by decide +kernel, by decide +kernel⟩
abbrev s_L_is_name : Stmt := topS 29
theorem sc_L_is_name : FnScope ["_law_thing", "_law_sign"] ["_law_thing"] (defScope s_L_is_name) := ⟨rfl, rfl, rfl, by decide +kernel, rfl, by decide +kernel, by decide +kernel⟩
abbrev s_L_is_signs : Stmt := topS 30
theorem sc_L_is_signs : FnScope ["_law_thing", "_law_sign"] ["_law_thing"] (defScope s_L_is_signs) := ⟨rfl, rfl, rfl, by decide +kernel, rfl, by decide +kernel, by decide +kernel⟩
abbrev s_L_is_thing : Stmt := topS 31
theorem sc_L_is_thing : FnScope ["_law_thing", "_law_part", "_law_many"] ["_law_thing", "_law_part", "_law_many"] (defScope s_L_is_thing) := ⟨rfl, rfl, rfl, by decide +kernel, rfl, by decide +kernel, by decide +kernel⟩
abbrev s_L_is_order : Stmt := topS 32
theorem sc_L_is_order : FnScope ["_law_thing", "_law_many", "_law_form_here", "_law_place"] ["_law_thing", "_law_many"] (defScope s_L_is_order) := ⟨rfl, rfl, rfl, by decide +kernel, rfl, by decide +kernel, by decide +kernel⟩
abbrev s_L_due : Stmt := topS 33
theorem sc_L_due : FnScope ["_law_handed", "_law_number"] ["_law_handed"] (defScope s_L_due) := ⟨rfl, rfl, rfl, by decide +kernel, rfl, by decide +kernel, by decide +kernel⟩
abbrev s_L_odd : Stmt := topS 34
theorem sc_L_odd : FnScope ["_law_draw_here", "_law_thing", "_law_many", "_law_near", "_law_menu"] ["_law_draw_here", "_law_thing", "_law_many"] (defScope s_L_odd) := ⟨rfl, rfl, rfl, by decide +kernel, rfl, by decide +kernel, by decide +kernel⟩
abbrev s_L_odd_line : Stmt := topS 35
theorem sc_L_odd_line : FnScope ["_law_draw_here", "_law_menu"] ["_law_draw_here"] (defScope s_L_odd_line) := ⟨rfl, rfl, rfl, by decide +kernel, rfl, by decide +kernel, by decide +kernel⟩
abbrev s_L_spoilt : Stmt := topS 36
theorem sc_L_spoilt : FnScope ["_law_draw_here", "_law_line", "_law_many", "_law_kind", "_law_place", "_law_odd_here"] ["_law_draw_here", "_law_line", "_law_many"] (defScope s_L_spoilt) := ⟨rfl, rfl, rfl, by decide +kernel, rfl, by decide +kernel, by decide +kernel⟩
abbrev s_L_tried : Stmt := topS 37
theorem sc_L_tried : FnScope ["_law_handed", "_law_made", "raised"] ["_law_handed"] (defScope s_L_tried) := ⟨rfl, rfl, rfl, by decide +kernel, rfl, by decide +kernel, by decide +kernel⟩
abbrev s_L_no_line : Stmt := topS 38
theorem sc_L_no_line : FnScope ["_law_orders", "_law_thing", "_law_told", "raised"] ["_law_orders", "_law_thing"] (defScope s_L_no_line) := ⟨rfl, rfl, rfl, by decide +kernel, rfl, by decide +kernel, by decide +kernel⟩
abbrev s_L_tells : Stmt := topS 39
theorem sc_L_tells : FnScope ["_law_orders", "_law_due_here", "_law_many", "_law_thing", "_law_line", "_law_number"] ["_law_orders", "_law_due_here"] (defScope s_L_tells) := ⟨rfl, rfl, rfl, by decide +kernel, rfl, by decide +kernel, by decide +kernel⟩
abbrev s_L_right : Stmt := topS 40
theorem sc_L_right : FnScope ["_law_good", "_law_draw_here", "_law_due_here", "_law_handed", "_law_before", "_law_orders", "_law_place", "_law_other", "_law_twin", "_law_changed", "_law_same", "_law_line"] ["_law_good", "_law_draw_here"] (defScope s_L_right) := ⟨rfl, rfl, rfl, by decide +kernel, rfl, by decide +kernel, by decide +kernel⟩
abbrev s_L_asked : Stmt := topS 41
theorem sc_L_asked : FnScope ["_law_handed", "_law_before", "_law_due_here", "_law_told", "_law_lines", "_law_line"] ["_law_handed"] (defScope s_L_asked) := ⟨rfl, rfl, rfl, by decide +kernel, rfl, by decide +kernel, by decide +kernel⟩
abbrev s_law : Stmt := topS 42
theorem sc_law : FnScope ["_law_script", "_law_draw_here", "_law_names_here", "_law_kind", "_law_many", "_law_good", "_law_turn", "_law_bad", "_law_spoil", "_law_place", "_law_handed", "_law_odd_here", "_law_line"] ["_law_script"] (defScope s_law) := ⟨rfl, rfl, rfl, by decide +kernel, rfl, by decide +kernel, by decide +kernel⟩
abbrev s_BadOrder : Stmt := inClass (topS 3) 0
theorem sc_BadOrder : FnScope ["self", "number"] ["self", "number"] (defScope s_BadOrder) := ⟨rfl, rfl, rfl, by decide +kernel, rfl, by decide +kernel, by decide +kernel⟩
abbrev s_BadReader : Stmt := inClass (topS 4) 0
theorem sc_BadReader : FnScope ["self", "number"] ["self", "number"] (defScope s_BadReader) := ⟨rfl, rfl, rfl, by decide +kernel, rfl, by decide +kernel, by decide +kernel⟩
abbrev s_NoLine : Stmt := inClass (topS 5) 0
theorem sc_NoLine : FnScope ["self", "number"] ["self", "number"] (defScope s_NoLine) := ⟨rfl, rfl, rfl, by decide +kernel, rfl, by decide +kernel, by decide +kernel⟩
/-- what the top has written -/
structure Txt (K : PySem.W.Frag) (mg : Str → Option Value) (C_GlimError : Addr) (C_BadOrder : Addr) (C_BadReader : Addr) (C_NoLine : Addr) (C_Orders : Addr) : Prop where
  d_is_integer : DefIn K mg "is_integer" s_is_integer ["thing", "low", "high"]
  d_deep : DefD K mg "deep" s_deep ["thing", "level"] [.int 0]
  d_is_mark : DefIn K mg "is_mark" s_is_mark ["thing"]
  d_is_name : DefIn K mg "is_name" s_is_name ["thing"]
  d_is_signs : DefIn K mg "is_signs" s_is_signs ["thing"]
  d_is_order : DefIn K mg "is_order" s_is_order ["thing", "many"]
  m_Orders___init__ : MkIn K mg "Orders" "Orders.__init__" C_Orders s_Orders___init__ ["self", "lines"] []
  m_Orders___len__ : MetIn K C_Orders "__len__" "Orders.__len__" s_Orders___len__ ["self"] []
  m_Orders___iter__ : MetIn K C_Orders "__iter__" "Orders.__iter__" s_Orders___iter__ ["self"] []
  m_Orders___getitem__ : MetIn K C_Orders "__getitem__" "Orders.__getitem__" s_Orders___getitem__ ["self", "number"] []
  m_Orders___eq__ : MetIn K C_Orders "__eq__" "Orders.__eq__" s_Orders___eq__ ["self", "other"] []
  d_L_draw : DefIn K mg "_law_draw" s_L_draw ["_law_script"]
  d_L_mix : DefIn K mg "_law_mix" s_L_mix ["_law_cell", "_law_turn"]
  d_L_pick : DefIn K mg "_law_pick" s_L_pick ["_law_draw_here", "_law_many"]
  d_L_is_int : DefIn K mg "_law_is_int" s_L_is_int ["_law_thing"]
  d_L_name : DefIn K mg "_law_name" s_L_name ["_law_draw_here", "_law_used"]
  d_L_names : DefIn K mg "_law_names" s_L_names ["_law_draw_here", "_law_many"]
  d_L_signs : DefIn K mg "_law_signs" s_L_signs ["_law_draw_here"]
  d_L_order : DefIn K mg "_law_order" s_L_order ["_law_draw_here", "_law_many", "_law_names_here", "_law_top"]
  d_L_form : DefIn K mg "_law_form" s_L_form ["_law_word"]
  d_L_is_name : DefIn K mg "_law_is_name" s_L_is_name ["_law_thing"]
  d_L_is_signs : DefIn K mg "_law_is_signs" s_L_is_signs ["_law_thing"]
  d_L_is_thing : DefIn K mg "_law_is_thing" s_L_is_thing ["_law_thing", "_law_part", "_law_many"]
  d_L_is_order : DefIn K mg "_law_is_order" s_L_is_order ["_law_thing", "_law_many"]
  d_L_due : DefIn K mg "_law_due" s_L_due ["_law_handed"]
  d_L_odd : DefIn K mg "_law_odd" s_L_odd ["_law_draw_here", "_law_thing", "_law_many"]
  d_L_odd_line : DefIn K mg "_law_odd_line" s_L_odd_line ["_law_draw_here"]
  d_L_spoilt : DefIn K mg "_law_spoilt" s_L_spoilt ["_law_draw_here", "_law_line", "_law_many"]
  d_L_tried : DefIn K mg "_law_tried" s_L_tried ["_law_handed"]
  d_L_no_line : DefIn K mg "_law_no_line" s_L_no_line ["_law_orders", "_law_thing"]
  d_L_tells : DefIn K mg "_law_tells" s_L_tells ["_law_orders", "_law_due_here"]
  d_L_right : DefIn K mg "_law_right" s_L_right ["_law_good", "_law_draw_here"]
  d_L_asked : DefIn K mg "_law_asked" s_L_asked ["_law_handed"]
  d_law : DefIn K mg "law" s_law ["_law_script"]
  b_ValueError : mg "ValueError" = none
  b_abs : mg "abs" = none
  b_bool : mg "bool" = none
  b_enumerate : mg "enumerate" = none
  b_int : mg "int" = none
  b_isinstance : mg "isinstance" = none
  b_iter : mg "iter" = none
  b_len : mg "len" = none
  b_list : mg "list" = none
  b_range : mg "range" = none
  b_repr : mg "repr" = none
  b_str : mg "str" = none
  b_sum : mg "sum" = none
  b_tuple : mg "tuple" = none
  g_SIGNS : ∃ t, mg "SIGNS" = some (.str ⟨([46, 103, 114, 119] : List Nat).toArray⟩ t)
  g_MARK_SIGNS : ∃ t, mg "MARK_SIGNS" = some (.str ⟨([97, 98, 99, 100, 101, 102, 103, 104, 105, 106, 107, 108, 109, 110, 111, 112, 113, 114, 115, 116, 117, 118, 119, 120, 121, 122, 48, 49, 50, 51, 52, 53, 54, 55, 56, 57] : List Nat).toArray⟩ t)
  g_MOST_LEVELS : ∃ t, mg "MOST_LEVELS" = some (.int 70 t)
  g_MOST_LINES : ∃ t, mg "MOST_LINES" = some (.int 20 t)
  c_GlimError : mg "GlimError" = some (.ref C_GlimError)
  c_BadOrder : mg "BadOrder" = some (.ref C_BadOrder)
  c_BadReader : mg "BadReader" = some (.ref C_BadReader)
  c_NoLine : mg "NoLine" = some (.ref C_NoLine)
  c_Orders : mg "Orders" = some (.ref C_Orders)
  cl_Orders : Cls K C_Orders
  ic_Orders : InsC K C_Orders
  nt_Orders : PySem.W.notFirst K C_Orders (.type "tuple") = true
  st_Orders : PySem.W.subIn K (.ref C_Orders) (.type "tuple") = some false
  na_Orders_lines : NoAttr K C_Orders "lines"
  o_BadOrder : OexC K C_BadOrder
  nf_BadOrder_number : PySem.W.findIn K (.ref C_BadOrder) "number" = some none
  i_BadOrder : ∃ fI fd, PySem.W.findIn K (.ref C_BadOrder) "__init__" = some (some (.ref fI)) ∧ PySem.W.typeIn K (.ref fI) = some (.type "function") ∧ Fun K "__init__" "BadOrder.__init__" s_BadOrder fI fd ∧ Binds K fd ["self", "number"] []
  e_BadOrder : ExcD K C_BadOrder
  o_BadReader : OexC K C_BadReader
  nf_BadReader_number : PySem.W.findIn K (.ref C_BadReader) "number" = some none
  i_BadReader : ∃ fI fd, PySem.W.findIn K (.ref C_BadReader) "__init__" = some (some (.ref fI)) ∧ PySem.W.typeIn K (.ref fI) = some (.type "function") ∧ Fun K "__init__" "BadReader.__init__" s_BadReader fI fd ∧ Binds K fd ["self", "number"] []
  e_BadReader : ExcD K C_BadReader
  o_NoLine : OexC K C_NoLine
  nf_NoLine_number : PySem.W.findIn K (.ref C_NoLine) "number" = some none
  i_NoLine : ∃ fI fd, PySem.W.findIn K (.ref C_NoLine) "__init__" = some (some (.ref fI)) ∧ PySem.W.typeIn K (.ref fI) = some (.type "function") ∧ Fun K "__init__" "NoLine.__init__" s_NoLine fI fd ∧ Binds K fd ["self", "number"] []
  e_NoLine : ExcD K C_NoLine
  k_NoLine_NoLine : PySem.W.kitOne K (.ref C_NoLine) (.ref C_NoLine) = some true
  k_NoLine_BadOrder : PySem.W.kitOne K (.ref C_NoLine) (.ref C_BadOrder) = some false
  k_BadOrder_BadOrder : PySem.W.kitOne K (.ref C_BadOrder) (.ref C_BadOrder) = some true
  k_BadOrder_ValueError : PySem.W.kitOne K (.ref C_BadOrder) (.type "ValueError") = some true
  k_BadOrder_BadReader : PySem.W.kitOne K (.ref C_BadOrder) (.ref C_BadReader) = some false
  k_Orders_Orders : PySem.W.kitOne K (.ref C_Orders) (.ref C_Orders) = some true
  k_tuple_Orders : PySem.W.kitOne K (.type "tuple") (.ref C_Orders) = some false
  m_BadOrder_GlimError : PySem.W.exmOne K (.ref C_BadOrder) (.ref C_GlimError) = some true
  m_NoLine_GlimError : PySem.W.exmOne K (.ref C_NoLine) (.ref C_GlimError) = some true
section
variable {P : Program} {w : World} {K : PySem.W.Frag} {mg : Str → Option Value} {base : Heap} {C_GlimError C_BadOrder C_BadReader C_NoLine C_Orders : Addr}
theorem okx_BadOrder (T : Txt K mg C_GlimError C_BadOrder C_BadReader C_NoLine C_Orders) : OKx P w K mg base "BadOrder" "number" C_BadOrder := by
  obtain ⟨fI, fd, h1, h2, F, hb⟩ := T.i_BadOrder
  exact ⟨T.c_BadOrder, T.o_BadOrder, T.nf_BadOrder_number, fI, fd, h1, h2, ini_ok F sc_BadOrder T.o_BadOrder T.nf_BadOrder_number (fun cdv A outer s H E => (pss_one (ps_ost (pv 0) (pv 1)))), hb⟩
theorem okx_BadReader (T : Txt K mg C_GlimError C_BadOrder C_BadReader C_NoLine C_Orders) : OKx P w K mg base "BadReader" "number" C_BadReader := by
  obtain ⟨fI, fd, h1, h2, F, hb⟩ := T.i_BadReader
  exact ⟨T.c_BadReader, T.o_BadReader, T.nf_BadReader_number, fI, fd, h1, h2, ini_ok F sc_BadReader T.o_BadReader T.nf_BadReader_number (fun cdv A outer s H E => (pss_one (ps_ost (pv 0) (pv 1)))), hb⟩
theorem okx_NoLine (T : Txt K mg C_GlimError C_BadOrder C_BadReader C_NoLine C_Orders) : OKx P w K mg base "NoLine" "number" C_NoLine := by
  obtain ⟨fI, fd, h1, h2, F, hb⟩ := T.i_NoLine
  exact ⟨T.c_NoLine, T.o_NoLine, T.nf_NoLine_number, fI, fd, h1, h2, ini_ok F sc_NoLine T.o_NoLine T.nf_NoLine_number (fun cdv A outer s H E => (pss_one (ps_ost (pv 0) (pv 1)))), hb⟩
end
end K42
namespace K42
open PySem PySem.Spec PyProof.Rows L2 Fg
local macro_rules | `(tactic| walk_at "sq") => `(tactic| first
  | assumption
  | exact .inl (.inl (by assumption))
  | exact .inl (.inl upd_same))
local macro_rules | `(tactic| walk_at "st") => `(tactic| first
  | assumption
  | exact .inl (.inl (by assumption))
  | exact .inl (.inl upd_same))
local macro_rules | `(tactic| walk_at "o") => `(tactic| first
  | omega
  | assumption
  | (simp only [List.length_append, List.length_take, List.length_drop, List.length_cons, List.length_nil, List.length_singleton, List.length_map, List.length_range, Int.toNat_natCast] ; omega))
local macro_rules | `(tactic| walk_at "s") => `(tactic| first
  | (with_reducible refine i_seq ?_)
  | (with_reducible refine i_asg ?_)
  | ((with_reducible refine' i_var ?h1 ?_); (case h1 => rfl))
  | (with_reducible refine i_c ?_)
  | ((with_reducible refine' i_gname' ?h1 ?_); (case h1 => (simp only [List.set_cons_zero, List.set_cons_succ]; rfl)))
  | (with_reducible refine i_op ?_)
  | (with_reducible refine i_ifS ?_)
  | (with_reducible refine i_for ?_)
  | (with_reducible refine i_test ?_)
  | (with_reducible refine i_B ?_)
  | (with_reducible refine i_exbl ?_)
  | (with_reducible refine i_exint ?_)
  | (with_reducible refine i_cb ?_)
  | (with_reducible refine i_nil ?_)
  | (with_reducible refine i_cons ?_)
  | (with_reducible refine i_ret ?_)
  | (with_reducible refine i_sl ?_)
  | (with_reducible refine i_nopart ?_)
  | (with_reducible refine i_part ?_)
  | (with_reducible refine i_add_int ?_)
  | (with_reducible refine i_sub ?_)
  | (with_reducible refine i_lt ?_)
  | ((with_reducible refine' i_mod ?h1 ?_); (case h1 => walk_at "o"))
  | ((with_reducible refine' i_fdiv ?h1 ?_); (case h1 => (refine cdiv_small ?_ ?_ <;> walk_at "o")))
  | ((with_reducible refine' i_sl_to ?h1 ?h2 ?_); (case h1 => walk_at "o"); (case h2 => walk_at "o"))
  | ((with_reducible refine' i_sl_from ?h1 ?h2 ?_); (case h1 => walk_at "o"); (case h2 => walk_at "o"))
  | ((with_reducible refine' i_add_str ?h1 ?_); (case h1 => walk_at "o"))
  | ((with_reducible refine' i_mul_int ?h1 ?_); (case h1 => first | (refine mul_small ?_ ?_ <;> walk_at "o") | (refine mul_smallR ?_ ?_ <;> walk_at "o")))
  | (with_reducible refine i_le ?_)
  | (with_reducible refine i_gt ?_)
  | (with_reducible refine i_ge ?_)
  | (with_reducible refine i_eq_int ?_)
  | (with_reducible refine i_eq_str ?_)
  | (with_reducible refine i_ne_int ?_)
  | (with_reducible refine i_ne_str ?_)
  | (with_reducible refine i_eq_bl ?_)
  | (with_reducible refine i_ne_bl ?_)
  | (with_reducible refine i_in_sg ?_)
  | (with_reducible refine i_notIn_sg ?_)
  | (with_reducible refine i_call ?_)
  | (with_reducible refine i_callS ?_)
  | (with_reducible refine i_sp1 ?_)
  | (with_reducible refine i_sp2 ?_)
  | (with_reducible refine i_sp3 ?_)
  | (with_reducible refine i_sp4 ?_)
  | (with_reducible refine i_sp1' ?_)
  | (with_reducible refine i_sp2' ?_)
  | (with_reducible refine i_sp3' ?_)
  | ((with_reducible refine' i_ix_lst ?h1 ?h2 ?_); (case h1 => walk_at "sq"); (case h2 => first | exact atI_nat rfl | rfl))
  | ((with_reducible refine' i_ix_tup ?h1 ?h2 ?_); (case h1 => walk_at "st"); (case h2 => first | exact atI_nat rfl | rfl))
  | (with_reducible refine i_gsub ?_)
  | (with_reducible refine i_par ?_)
  | (with_reducible refine i_lstRg1 ?_)
  | (with_reducible refine i_app ?_)
  | (with_reducible refine i_par2 ?_)
  | ((with_reducible refine' i_aug ?h1 ?_); (case h1 => rfl))
  | (with_reducible refine i_ipI ?_)
  | ((with_reducible refine' i_gtup2 ?h1 ?_); (case h1 => walk_at "st"))
  | (with_reducible refine i_int_bl ?_)
  | (with_reducible refine i_raise ?_)
  | (with_reducible refine i_mkE ?_)
  | (with_reducible refine i_ex1 ?_)
  | (with_reducible refine i_and ?_)
  | (with_reducible refine i_or ?_)
  | (with_reducible refine i_not ?_)
  | (with_reducible refine i_tt ?_)
  | (with_reducible refine i_ff ?_)
  | (with_reducible refine i_nott ?_)
  | (with_reducible refine i_notf ?_)
  | (with_reducible refine i_andV ?_)
  | (with_reducible refine i_orV ?_)
  | (with_reducible refine i_notV ?_)
  | (with_reducible refine i_ifE ?_)
  | (with_reducible refine i_tup ?_)
  | (with_reducible refine i_lst ?_)
  | (with_reducible refine i_un ?_)
  | (with_reducible refine i_neg ?_)
  | (with_reducible refine i_chain ?_)
  | (with_reducible refine i_next ?_)
  | (with_reducible refine i_retN ?_)
  | (with_reducible refine i_drop ?_)
  | (with_reducible refine i_int_int ?_)
  | (with_reducible refine i_abs ?_)
  | (with_reducible refine i_m1c ?_)
  | (with_reducible refine i_is_non ?_)
  | (with_reducible refine i_is_int ?_)
  | (with_reducible refine i_is_bl ?_)
  | (with_reducible refine i_isn_bl ?_)
  | (with_reducible refine i_is_str ?_)
  | (with_reducible refine i_is_ref ?_)
  | (with_reducible refine i_isn_non ?_)
  | (with_reducible refine i_isn_int ?_)
  | (with_reducible refine i_isn_str ?_)
  | (with_reducible refine i_isn_ref ?_)
  | (with_reducible refine i_len_str ?h1 ?_; (case h1 => walk_at "o"))
  | (with_reducible refine i_callD ?_)
  | (with_reducible refine i_spD2 ?_)
  | (with_reducible refine i_spM1 ?_)
  | (with_reducible refine i_spM2 ?_)
  | (with_reducible refine i_spM3 ?_)
  | (with_reducible refine i_spM4 ?_)
  | (with_reducible refine i_spM3d ?_)
  | (with_reducible refine i_tfld ?_)
  | (with_reducible refine i_sfld ?_)
  | (with_reducible refine i_meth ?_)
  | (with_reducible refine i_make ?_)
  | (with_reducible refine i_spl ?_)
  | (with_reducible refine i_mkE2 ?_)
  | (with_reducible refine i_ex2 ?_)
  | (with_reducible refine i_dget ?_)
  | (with_reducible refine i_tru ?_)
  | (with_reducible refine i_dput ?_)
  | (with_reducible refine i_dnotin ?_)
  | (with_reducible refine i_din ?_)
  | (with_reducible refine i_isi_int_int ?_) | (with_reducible refine i_isi_int_bool ?_) | (with_reducible refine i_isi_int_str ?_) | (with_reducible refine i_isi_int_tuple ?_) | (with_reducible refine i_isi_int_list ?_)
  | (with_reducible refine i_isi_bl_int ?_) | (with_reducible refine i_isi_bl_bool ?_) | (with_reducible refine i_isi_bl_str ?_) | (with_reducible refine i_isi_bl_tuple ?_) | (with_reducible refine i_isi_bl_list ?_)
  | (with_reducible refine i_isi_str_int ?_) | (with_reducible refine i_isi_str_bool ?_) | (with_reducible refine i_isi_str_str ?_) | (with_reducible refine i_isi_str_tuple ?_) | (with_reducible refine i_isi_str_list ?_)
  | (with_reducible refine i_isi_non_int ?_) | (with_reducible refine i_isi_non_bool ?_) | (with_reducible refine i_isi_non_str ?_) | (with_reducible refine i_isi_non_tuple ?_) | (with_reducible refine i_isi_non_list ?_))
local macro_rules | `(tactic| walk_at "go") => `(tactic| (repeat' (walk_at "s")))
local macro_rules | `(tactic| walk_at "n") => `(tactic| simp only [wipe, List.map_cons, List.map_nil, List.set_cons_zero, List.set_cons_succ])
/-! ### draws: the list at a holds a place in the script's cells (at c) and what is left of a great one -/
structure Dd where
  a : Addr
  c : Addr
  ns : List Int
/-- H0: what is known besides -/
def Dr (K : PySem.W.Frag) (d : Dd) (H0 H : Hp) : Prop := Same H0 H ∧ H0 d.a = none ∧ SqL K H0 d.c (d.ns.map V.int) ∧ d.ns.length ≤ 100 ∧ ∃ p b u x s : Int, H d.a = some (.lst [.ref d.c, .int p, .int b, .int u, .int x, .int s]) ∧ 0 ≤ p
section
variable {K : PySem.W.Frag} {d : Dd} {H0 H H' H1 : Hp} {q : Addr} {o o' : HO}
theorem Dr.same (h : Dr K d H0 H) (s : Same H H') : Dr K d H0 H' := by
  obtain ⟨s0, n0, hc, hl, p, b, u, x, sd, ha, hp⟩ := h
  exact ⟨s0.trans s, n0, hc, hl, p, b, u, x, sd, s _ _ ha, hp⟩
theorem Dr.new (h : Dr K d H0 H) (n : H q = none) : Dr K d (upd H0 q o) (upd H q o) := by
  obtain ⟨s0, n0, hc, hl, p, b, u, x, sd, ha, hp⟩ := h
  have nq : d.a ≠ q := ne_of_none ha n
  have s1 : Same H0 (upd H0 q o) := same_upd (s0.free n)
  refine ⟨fun b' o' e => ?_, by rw [upd_ne nq]; exact n0, s1.seq hc, hl, p, b, u, x, sd, by rw [upd_ne nq]; exact ha, hp⟩
  by_cases hb : b' = q
  · rw [hb, upd_same] at e
    rw [hb, upd_same]; exact e
  · rw [upd_ne hb] at e
    rw [upd_ne hb]; exact s0 _ _ e
/-- an object that is known changes -/
theorem Dr.put (h : Dr K d (upd H0 q o) H) (hc : SqL K H0 d.c (d.ns.map V.int)) (n : H0 q = none) : Dr K d (upd H0 q o') (upd H q o') := by
  obtain ⟨s0, n0, _, hl, p, b, u, x, sd, ha, hp⟩ := h
  have nq : d.a ≠ q := fun z => by rw [z, upd_same] at n0; cases n0
  have s1 : Same H0 (upd H0 q o') := same_upd n
  rw [upd_ne nq] at n0
  refine ⟨fun b' o' e => ?_, by rw [upd_ne nq]; exact n0, s1.seq hc, hl, p, b, u, x, sd, by rw [upd_ne nq]; exact ha, hp⟩
  by_cases hb : b' = q
  · rw [hb, upd_same] at e
    rw [hb, upd_same]; exact e
  · rw [upd_ne hb] at e
    rw [upd_ne hb]; exact s0 _ _ (by rw [upd_ne hb]; exact e)
/-- more, or less, is known -/
theorem Dr.know (h : Dr K d H0 H) (s0 : Same H0 H1) (s1 : Same H1 H) (n : H1 d.a = none) : Dr K d H1 H := by
  obtain ⟨_, n0, hc, hl, p, b, u, x, sd, ha, hp⟩ := h
  exact ⟨s1, n, s0.seq hc, hl, p, b, u, x, sd, ha, hp⟩
theorem Dr.less (h : Dr K d (upd H0 q o) H) (hc : SqL K H0 d.c (d.ns.map V.int)) (n : H0 q = none) : Dr K d H0 H := by
  obtain ⟨s0, n0, _, hl, p, b, u, x, sd, ha, hp⟩ := h
  have nq : d.a ≠ q := fun z => by rw [z, upd_same] at n0; cases n0
  rw [upd_ne nq] at n0
  exact ⟨(same_upd n).trans s0, n0, hc, hl, p, b, u, x, sd, ha, hp⟩
theorem Dr.old (h : Dr K d H0 H) (e : H0 q = some o) : H q = some o := h.1 _ _ e
theorem Dr.cells (h : Dr K d H0 H) : SqL K H0 d.c (d.ns.map V.int) := h.2.2.1
theorem Dr.free (h : Dr K d H0 H) (n : H q = none) : H0 q = none := h.1.free n
/-- what a call that leaves all as it was hands back new -/
theorem Dr.got (h : Dr K d H0 H) (n : H q = none) (s : Same H H') (e : H' q = some o) : Dr K d (upd H0 q o) H' := by
  obtain ⟨s0, n0, hc, hl, p, b, u, x, sd, ha, hp⟩ := h
  have nq : d.a ≠ q := ne_of_none ha n
  have s1 : Same H0 (upd H0 q o) := same_upd (s0.free n)
  refine ⟨fun b' o' e' => ?_, by rw [upd_ne nq]; exact n0, s1.seq hc, hl, p, b, u, x, sd, s _ _ ha, hp⟩
  by_cases hb : b' = q
  · rw [hb, upd_same] at e'
    rw [hb, e]; exact e'
  · rw [upd_ne hb] at e'
    exact s _ _ (s0 _ _ e')
end
theorem range_getD (xs : List V) : (List.range xs.length).map (fun i => xs.getD i .non) = xs := by
  refine List.ext_getElem? fun i => ?_
  rw [List.getElem?_map]
  by_cases h : i < xs.length
  · rw [List.getElem?_range h, Option.map_some, List.getD_eq_getElem?_getD, List.getElem?_eq_getElem h]
    rfl
  · rw [List.getElem?_eq_none (by simpa using h), List.getElem?_eq_none (by omega)]
    rfl
def Btw (n many : Int) : Prop := 0 ≤ n ∧ (2 ≤ many → n < many) ∧ (many < 2 → n = 0)
section
variable {P : Program} {w : World} {K : PySem.W.Frag} {mg : Str → Option Value} {base : Heap} {C_GlimError C_BadOrder C_BadReader C_NoLine C_Orders : Addr}
def p_L_draw (K : PySem.W.Frag) : P1 := fun v H Q _ => ∃ (a0 : Addr) (ns : List Int), v = .ref a0 ∧ SqL K H a0 (ns.map V.int) ∧ ns.length ≤ 100 ∧ ∀ H0 d H', Same H H0 → Dr K d H0 H' → Q (.ref d.a) H'
theorem ok_L_draw (T : Txt K mg C_GlimError C_BadOrder C_BadReader C_NoLine C_Orders) : OK P w K mg base CX0 1 "_law_draw" ["_law_script"] (sp1  (p_L_draw K)) := by
  refine OK.mk (k := 0) T.d_L_draw sc_L_draw len1 fun f cdv A outer s H vs Q E hr h => ?_
  obtain ⟨x, rfl, h⟩ := h
  refine ⟨_, (pss_cons (ps_setLc (i := 1) (own := [("_law_cell", 2)]) (g := gName 2) (tt := tYes) (by rfl) sc_L_draw.nd rfl rfl (sw_true rfl rfl rfl (by decide +kernel)) (piAny K (pv 0)) (blkOk_by (own := [("_law_cell", 2)]) (N := ["_law_script", "_law_cells", "_law_cell"]) (sc := (defScope s_L_draw)) (by decide +kernel)) (fun _ _ _ _ _ => (pg_name (i := 2) sc_L_draw.nd rfl (Or.inl rfl))) (fun _ _ _ _ _ => pts_nil) (fun _ _ _ _ _ => (pv 2))) (pss_one (ps_ret (pe_lst (pa_cons (pv 1) (pa_cons pe_int (pa_cons pe_int (pa_cons pe_int (pa_cons pe_int (pa_cons (pe_op (opAdd K) (pe_op op_modP (pe_callTy call_intP (by rfl) T.b_int (by decide +kernel) (pa_cons (pe_callB (cSum K rfl) (by rfl) T.b_sum (by decide +kernel) (pa_cons (pv 1) pa_nil)) pa_nil)) pe_int) (pe_op op_mulP pe_int (pe_callB (cLen K) (by rfl) T.b_len (by decide +kernel) (pa_cons (pv 1) pa_nil)))) pa_nil)))))))))), ?_⟩
  show (_ : TS) { nx := fun _ H' => Q .non H', rt := Q } [some x, none, none] H
  obtain ⟨a0, ns, rfl, hS, hl, q⟩ := h
  walk_at "go"
  refine c_lst (xs := ns.map V.int) (fun R k => by walk_at "go"; exact k) hS (by rw [List.length_map]; omega) (fun _ => true) (fun i => (ns.map V.int).getD i .non) (fun _ => rfl) (fun i v H2 hi s2 QB k => k H2 (Same.refl H2)) (fun i v H2 hi s2 _ QV k => ?_) (fun Dl H2 n2 s2 d2 => ?_)
  · show (_ : TE) [some (.ref a0), none, some v] H2 QV
    walk_at "go"
    have e : v = (ns.map V.int).getD i .non := by rw [List.getD_eq_getElem?_getD, hi]; rfl
    rw [e]
    exact k H2 (Same.refl H2)
  · rw [kept_all, range_getD] at d2
    walk_at "go"
    refine i_sum (ns := ns) (.inl (.inl d2)) ?_
    walk_at "go"
    refine i_len_lst (.inl (.inl d2)) ?_
    walk_at "go"
    refine i_new (by show 6 ≤ 100000; omega) fun a na => ?_
    walk_at "go"
    exact q H2 ⟨a, Dl, ns⟩ _ s2 ⟨same_upd na, na, .inl (.inl d2), hl, _, _, _, _, _, upd_same, Int.le_refl _⟩
def p_L_mix : P2 := fun x y H Q _ => ∃ a b : Int, x = .int a ∧ y = .int b ∧ ∀ r : Int, Q (.int r) H
theorem ok_L_mix (T : Txt K mg C_GlimError C_BadOrder C_BadReader C_NoLine C_Orders) : OK P w K mg base CX0 1 "_law_mix" ["_law_cell", "_law_turn"] (sp2  p_L_mix) := by
  refine OK.mk (k := 0) T.d_L_mix sc_L_mix len2 fun f cdv A outer s H vs Q E hr h => ?_
  obtain ⟨x, y, rfl, h⟩ := h
  refine ⟨_, (pss_cons (ps_set (i := 2) sc_L_mix.nd rfl (Or.inl rfl) (pe_op op_modP (pe_callTy call_intP (by rfl) T.b_int (by decide +kernel) (pa_cons (pe_op (opAdd K) (pe_op (opAdd K) (pe_op op_mulP (pv 0) pe_int) (pe_op op_mulP (pv 1) pe_int)) pe_int) pa_nil)) pe_int)) (pss_cons (ps_set (i := 3) sc_L_mix.nd rfl (Or.inl rfl) (pe_op op_modP (pe_callTy call_intP (by rfl) T.b_int (by decide +kernel) (pa_cons (pe_op (opAdd K) (pe_op (opAdd K) (pe_op op_mulP (pv 2) (pv 2)) (pe_op op_mulP (pv 1) pe_int)) (pv 0)) pa_nil)) pe_int)) (pss_cons (ps_set (i := 3) sc_L_mix.nd rfl (Or.inl rfl) (pe_op op_modP (pe_callTy call_intP (by rfl) T.b_int (by decide +kernel) (pa_cons (pe_op (opAdd K) (pe_op op_mulP (pv 3) (pv 3)) (pv 2)) pa_nil)) pe_int)) (pss_one (ps_ret (pe_op op_fdivP (pv 3) pe_int)))))), ?_⟩
  show (_ : TS) { nx := fun _ H' => Q .non H', rt := Q } [some x, some y, none, none] H
  obtain ⟨c, t, rfl, rfl, q⟩ := h
  walk_at "go"
  have h1 : 0 ≤ (c * 48271 + t * 69621 + 12345) % 2147483647 := Int.emod_nonneg _ (by decide)
  have h2 : (c * 48271 + t * 69621 + 12345) % 2147483647 < 2147483647 := Int.emod_lt_of_pos _ (by decide)
  generalize (c * 48271 + t * 69621 + 12345) % 2147483647 = o at *
  walk_at "go"
  have h3 : 0 ≤ (o * o + t * 7919 + c) % 998244353 := Int.emod_nonneg _ (by decide)
  have h4 : (o * o + t * 7919 + c) % 998244353 < 998244353 := Int.emod_lt_of_pos _ (by decide)
  generalize (o * o + t * 7919 + c) % 998244353 = o2 at *
  walk_at "go"
  exact q _
/-- a number from 0 to less than so many; the draws go on -/
def p_L_pick (K : PySem.W.Frag) : P2 := fun x y H Q _ => ∃ (H0 : Hp) (d : Dd) (many : Int), x = .ref d.a ∧ y = .int many ∧ Dr K d H0 H ∧ many ≤ 10000000000000000000000000000000000000000 ∧ ∀ (n : Int) H', Dr K d H0 H' → Btw n many → Q (.int n) H'
theorem wide_many {b many : Int} (h : 0 < many) (h2 : many ≤ 10000000000000000000000000000000000000000) : CDivW b many := by
  refine wide_div (b := 140) h ?_ (by decide) (by decide)
  have e : (2 : Nat) ^ 140 = 1393796574908163946345982392040522594123776 := by decide +kernel
  rw [e]
  omega
theorem ok_L_pick (T : Txt K mg C_GlimError C_BadOrder C_BadReader C_NoLine C_Orders) : OK P w K mg base CX0 2 "_law_pick" ["_law_draw_here", "_law_many"] (sp2  (p_L_pick K)) := by
  refine OK.mk (k := 1) T.d_L_pick sc_L_pick len2 fun f cdv A outer s H vs Q E hr h => ?_
  obtain ⟨x, y, rfl, h⟩ := h
  refine ⟨_, (pss_cons (ps_if (pt_cmpR op_ltP (pv 1) pe_int (nomark _)) (pss_one (ps_ret pe_int)) pss_nil) (Evl.pss_cut (ps_if (pw_and (pt_cmpR (opEq K hr.units) (pe_ix (ixK K) (pv 0) pe_int (fun _ _ => rfl)) pe_int (nomark _)) (pw_and (pt_cmpR op_ltP (pe_ix (ixK K) (pv 0) pe_int (fun _ _ => rfl)) (pe_callB (cLen K) (by rfl) T.b_len (by decide +kernel) (pa_cons (pe_ix (ixK K) (pv 0) pe_int (fun _ _ => rfl)) pa_nil)) (nomark _)) (pw_and1 (pt_cmpR (opEq K hr.units) (pe_ix (ixK K) (pv 0) pe_int (fun _ _ => rfl)) pe_int (nomark _))))).pt (pss_cons (ps_set (i := 2) sc_L_pick.nd rfl (Or.inl rfl) (pe_ix (ixK K) (pe_ix (ixK K) (pv 0) pe_int (fun _ _ => rfl)) (pe_ix (ixK K) (pv 0) pe_int (fun _ _ => rfl)) (fun _ _ => rfl))) (pss_one (ps_if (pw_or (pt_cmpR op_geP (pv 2) (pe_op op_powP pe_int pe_int) (nomark _)) (pw_or1 (pt_cmpR op_leP (pv 2) (pe_un un_neg (pe_op op_powP pe_int pe_int)) (nomark _)))).pt (pss_cons (ps_asg (pe_op op_modP (pe_callTy call_intP (by rfl) T.b_int (by decide +kernel) (pa_cons (pe_callB call_absP (by rfl) T.b_abs (by decide +kernel) (pa_cons (pv 2) pa_nil)) pa_nil)) (pe_op op_powP (pe_op op_powP pe_int pe_int) pe_int)) (pg_sub (pv 0) pe_int set_list)) (pss_one (ps_asg (pe_op (opAdd K) (pe_ix (ixK K) (pv 0) pe_int (fun _ _ => rfl)) pe_int) (pg_sub (pv 0) pe_int set_list)))) pss_nil))) pss_nil) (pss_cons (ps_if (pt_cmpR op_gtP (pe_ix (ixK K) (pv 0) pe_int (fun _ _ => rfl)) pe_int (nomark _)) (pss_cons (ps_set (i := 3) sc_L_pick.nd rfl (Or.inl rfl) (pe_op op_modP (pe_callTy call_intP (by rfl) T.b_int (by decide +kernel) (pa_cons (pe_ix (ixK K) (pv 0) pe_int (fun _ _ => rfl)) pa_nil)) (pv 1))) (pss_cons (ps_asg (pe_op op_fdivP (pe_ix (ixK K) (pv 0) pe_int (fun _ _ => rfl)) (pv 1)) (pg_sub (pv 0) pe_int set_list)) (pss_one (ps_ret (pv 3))))) pss_nil) (pss_cons (ps_if (pt_cmpR op_ltP (pe_ix (ixK K) (pv 0) pe_int (fun _ _ => rfl)) (pe_callB (cLen K) (by rfl) T.b_len (by decide +kernel) (pa_cons (pe_ix (ixK K) (pv 0) pe_int (fun _ _ => rfl)) pa_nil)) (nomark _)) (pss_cons (ps_set (i := 2) sc_L_pick.nd rfl (Or.inl rfl) (pe_ix (ixK K) (pe_ix (ixK K) (pv 0) pe_int (fun _ _ => rfl)) (pe_ix (ixK K) (pv 0) pe_int (fun _ _ => rfl)) (fun _ _ => rfl))) (pss_cons (ps_asg (pe_op (opAdd K) (pe_ix (ixK K) (pv 0) pe_int (fun _ _ => rfl)) pe_int) (pg_sub (pv 0) pe_int set_list)) (pss_cons (ps_set (i := 4) sc_L_pick.nd rfl (Or.inl rfl) (pe_op op_modP (pe_callTy call_intP (by rfl) T.b_int (by decide +kernel) (pa_cons (pe_f (ok_L_mix (K := K) T) (hr.mono (by decide)) pass0 (pa_cons (pe_op (opAdd K) (pv 2) (pe_op op_mulP pe_int (pe_ix (ixK K) (pv 0) pe_int (fun _ _ => rfl)))) (pa_cons (pe_ix (ixK K) (pv 0) pe_int (fun _ _ => rfl)) pa_nil))) pa_nil)) (pv 1))) (Evl.pss_cut (ps_if (pt_cmpR (opEq K hr.units) (pe_ix (ixK K) (pv 0) pe_int (fun _ _ => rfl)) pe_int (nomark _)) (pss_cons (ps_asg pe_int (pg_sub (pv 0) pe_int set_list)) (pss_one (ps_asg (pe_op (opAdd K) (pe_ix (ixK K) (pv 0) pe_int (fun _ _ => rfl)) pe_int) (pg_sub (pv 0) pe_int set_list)))) pss_nil) (pss_one (ps_ret (pv 4))))))) pss_nil) (pss_cons (ps_asg (pe_op (opAdd K) (pe_ix (ixK K) (pv 0) pe_int (fun _ _ => rfl)) pe_int) (pg_sub (pv 0) pe_int set_list)) (pss_one (ps_ret (pe_op op_modP (pe_callTy call_intP (by rfl) T.b_int (by decide +kernel) (pa_cons (pe_f (ok_L_mix (K := K) T) (hr.mono (by decide)) pass0 (pa_cons (pe_ix (ixK K) (pv 0) pe_int (fun _ _ => rfl)) (pa_cons (pe_op (opAdd K) (pe_ix (ixK K) (pv 0) pe_int (fun _ _ => rfl)) pe_int) pa_nil))) pa_nil)) (pv 1))))))))), ?_⟩
  show (_ : TS) { nx := fun _ H' => Q .non H', rt := Q } [some x, some y, none, none, none] H
  obtain ⟨H0, d, many, rfl, rfl, dr, hmax, q⟩ := h
  walk_at "go"
  refine i_dec (fun e => ?_) (fun e => ?_)
  · walk_at "go"
    exact q 0 H dr ⟨Int.le_refl _, fun z => by omega, fun _ => rfl⟩
  walk_at "go"
  have hpos : 0 < many := by omega
  -- a great cell is taken up
  refine i_cut (fun σ H' => ∃ v2 v3 v4, σ = [some (.ref d.a), some (.int many), v2, v3, v4] ∧ Dr K d H0 H') ?_ ?_
  · obtain ⟨a, c, ns⟩ := d
    obtain ⟨s0, n0, hC, hl, p, b, u, x, sd, hA, hp⟩ := id dr
    dsimp only at *
    have hC' : SqL K H c (ns.map V.int) := s0.seq hC
    have skip : ∃ v2 v3 v4, ([some (.ref a), some (.int many), none, none, none] : L2.St) = [some (.ref a), some (.int many), v2, v3, v4] ∧ Dr K ⟨a, c, ns⟩ H0 H := ⟨_, _, _, rfl, dr⟩
    walk_at "go"
    refine i_dec (fun e1 => ?_) (fun e1 => skip)
    walk_at "go"
    refine i_len_lst hC' ?_
    walk_at "go"
    refine i_dec (fun e2 => ?_) (fun e2 => skip)
    walk_at "go"
    refine i_dec (fun e3 => ?_) (fun e3 => skip)
    walk_at "go"
    rw [List.length_map] at e2
    have hpl : p.toNat < ns.length := by omega
    refine i_ix_lst (v := .int ns[p.toNat]) hC' (atI_int hp (by rw [List.getElem?_map, List.getElem?_eq_getElem hpl]; rfl)) ?_
    walk_at "go"
    refine i_pow (by decide +kernel) ?_
    walk_at "go"
    have fin : ∃ v2 v3 v4, ([some (.ref a), some (.int many), some (.int ns[p.toNat]), none, none] : L2.St) = [some (.ref a), some (.int many), v2, v3, v4] ∧ Dr K ⟨a, c, ns⟩ H0 H := ⟨_, _, _, rfl, dr⟩
    refine i_dec (fun e4 => ?_) (fun e4 => ?_)
    case' refine_2 =>
      walk_at "go"
      refine i_pow (by decide +kernel) ?_
      walk_at "go"
      refine i_dec (fun e5 => ?_) (fun e5 => fin)
    all_goals
      walk_at "go"
      refine i_pow (by decide +kernel) ?_
      walk_at "go"
      refine i_pow (by decide +kernel) ?_
      walk_at "go"
      refine i_mod (by decide +kernel) ?_
      walk_at "go"
      refine i_setL 2 hA rfl rfl ?_
      walk_at "go"
      refine i_setL 1 upd_same rfl rfl ?_
      walk_at "go"
      rw [upd_upd]
      exact ⟨_, _, _, rfl, Same.upd s0 n0, n0, hC, hl, _, _, _, _, _, upd_same, by omega⟩
  · rintro σ H1 ⟨v2, v3, v4, rfl, d1⟩
    obtain ⟨a, c, ns⟩ := d
    obtain ⟨s0, n0, hC, hl, p, b, u, x, sd, hA, hp⟩ := id d1
    dsimp only at *
    have hC' : SqL K H1 c (ns.map V.int) := s0.seq hC
    have put : ∀ {p' b' u' x' s' : Int}, 0 ≤ p' → Dr K ⟨a, c, ns⟩ H0 (upd H1 a (.lst [.ref c, .int p', .int b', .int u', .int x', .int s'])) := fun h => ⟨Same.upd s0 n0, n0, hC, hl, _, _, _, _, _, upd_same, h⟩
    have btw : ∀ r : Int, Btw (r % many) many := fun r => ⟨Int.emod_nonneg _ (by omega), fun _ => Int.emod_lt_of_pos _ hpos, fun z => by omega⟩
    walk_at "go"
    refine i_dec (fun e1 => ?_) (fun e1 => ?_)
    · -- a digit of the great one
      walk_at "go"
      refine i_fdiv (wide_many hpos hmax) ?_
      walk_at "go"
      refine i_setL 2 hA rfl rfl ?_
      walk_at "go"
      exact q _ _ (put hp) (btw _)
    walk_at "go"
    refine i_len_lst hC' ?_
    walk_at "go"
    rw [List.length_map]
    refine i_dec (fun e2 => ?_) (fun e2 => ?_)
    · have hpl : p.toNat < ns.length := by omega
      walk_at "go"
      refine i_ix_lst (v := .int ns[p.toNat]) hC' (atI_int hp (by rw [List.getElem?_map, List.getElem?_eq_getElem hpl]; rfl)) ?_
      walk_at "go"
      refine i_setL 3 hA rfl rfl ?_
      walk_at "go"
      refine ⟨_, _, rfl, rfl, fun r => ?_⟩
      walk_at "go"
      refine i_cut (fun σ H' => ∃ v3, σ = [some (.ref a), some (.int many), some (.int ns[p.toNat]), v3, some (.int (r % many))] ∧ Dr K ⟨a, c, ns⟩ H0 H') ?_ ?_
      · walk_at "go"
        refine i_dec (fun e3 => ?_) (fun e3 => ⟨_, rfl, put hp⟩)
        walk_at "go"
        refine i_setL 3 upd_same rfl rfl ?_
        walk_at "go"
        refine i_setL 1 upd_same rfl rfl ?_
        walk_at "go"
        rw [upd_upd, upd_upd]
        exact ⟨_, rfl, put (by omega)⟩
      · rintro σ H2 ⟨v3, rfl, d2⟩
        walk_at "go"
        exact q _ _ d2 (btw _)
    · walk_at "go"
      refine i_setL 4 hA rfl rfl ?_
      walk_at "go"
      refine ⟨_, _, rfl, rfl, fun r => ?_⟩
      walk_at "go"
      exact q _ _ (put hp) (btw _)
end
end K42
namespace K42
open PySem PySem.Spec PyProof.Rows L2 Fg
local macro_rules | `(tactic| walk_at "sq") => `(tactic| first
  | assumption
  | exact .inl (.inl (by assumption))
  | exact .inl (.inl upd_same))
local macro_rules | `(tactic| walk_at "st") => `(tactic| first
  | assumption
  | exact .inl (.inl (by assumption))
  | exact .inl (.inl upd_same))
local macro_rules | `(tactic| walk_at "o") => `(tactic| first
  | omega
  | assumption
  | (simp only [List.length_append, List.length_take, List.length_drop, List.length_cons, List.length_nil, List.length_singleton, List.length_map, List.length_range, Int.toNat_natCast] ; omega))
local macro_rules | `(tactic| walk_at "s") => `(tactic| first
  | (with_reducible refine i_seq ?_)
  | (with_reducible refine i_asg ?_)
  | ((with_reducible refine' i_var ?h1 ?_); (case h1 => rfl))
  | (with_reducible refine i_c ?_)
  | ((with_reducible refine' i_gname' ?h1 ?_); (case h1 => (simp only [List.set_cons_zero, List.set_cons_succ]; rfl)))
  | (with_reducible refine i_op ?_)
  | (with_reducible refine i_ifS ?_)
  | (with_reducible refine i_for ?_)
  | (with_reducible refine i_test ?_)
  | (with_reducible refine i_B ?_)
  | (with_reducible refine i_exbl ?_)
  | (with_reducible refine i_exint ?_)
  | (with_reducible refine i_cb ?_)
  | (with_reducible refine i_nil ?_)
  | (with_reducible refine i_cons ?_)
  | (with_reducible refine i_ret ?_)
  | (with_reducible refine i_sl ?_)
  | (with_reducible refine i_nopart ?_)
  | (with_reducible refine i_part ?_)
  | (with_reducible refine i_add_int ?_)
  | (with_reducible refine i_sub ?_)
  | (with_reducible refine i_lt ?_)
  | ((with_reducible refine' i_mod ?h1 ?_); (case h1 => walk_at "o"))
  | ((with_reducible refine' i_fdiv ?h1 ?_); (case h1 => (refine cdiv_small ?_ ?_ <;> walk_at "o")))
  | ((with_reducible refine' i_sl_to ?h1 ?h2 ?_); (case h1 => walk_at "o"); (case h2 => walk_at "o"))
  | ((with_reducible refine' i_sl_from ?h1 ?h2 ?_); (case h1 => walk_at "o"); (case h2 => walk_at "o"))
  | ((with_reducible refine' i_add_str ?h1 ?_); (case h1 => walk_at "o"))
  | ((with_reducible refine' i_mul_int ?h1 ?_); (case h1 => first | (refine mul_small ?_ ?_ <;> walk_at "o") | (refine mul_smallR ?_ ?_ <;> walk_at "o")))
  | (with_reducible refine i_le ?_)
  | (with_reducible refine i_gt ?_)
  | (with_reducible refine i_ge ?_)
  | (with_reducible refine i_eq_int ?_)
  | (with_reducible refine i_eq_str ?_)
  | (with_reducible refine i_ne_int ?_)
  | (with_reducible refine i_ne_str ?_)
  | (with_reducible refine i_eq_bl ?_)
  | (with_reducible refine i_ne_bl ?_)
  | (with_reducible refine i_in_sg ?_)
  | (with_reducible refine i_notIn_sg ?_)
  | (with_reducible refine i_call ?_)
  | (with_reducible refine i_callS ?_)
  | (with_reducible refine i_sp1 ?_)
  | (with_reducible refine i_sp2 ?_)
  | (with_reducible refine i_sp3 ?_)
  | (with_reducible refine i_sp4 ?_)
  | (with_reducible refine i_sp1' ?_)
  | (with_reducible refine i_sp2' ?_)
  | (with_reducible refine i_sp3' ?_)
  | ((with_reducible refine' i_ix_lst ?h1 ?h2 ?_); (case h1 => walk_at "sq"); (case h2 => first | exact atI_nat rfl | rfl))
  | ((with_reducible refine' i_ix_tup ?h1 ?h2 ?_); (case h1 => walk_at "st"); (case h2 => first | exact atI_nat rfl | rfl))
  | (with_reducible refine i_gsub ?_)
  | (with_reducible refine i_par ?_)
  | (with_reducible refine i_lstRg1 ?_)
  | (with_reducible refine i_app ?_)
  | (with_reducible refine i_par2 ?_)
  | ((with_reducible refine' i_aug ?h1 ?_); (case h1 => rfl))
  | (with_reducible refine i_ipI ?_)
  | ((with_reducible refine' i_gtup2 ?h1 ?_); (case h1 => walk_at "st"))
  | (with_reducible refine i_int_bl ?_)
  | (with_reducible refine i_raise ?_)
  | (with_reducible refine i_mkE ?_)
  | (with_reducible refine i_ex1 ?_)
  | (with_reducible refine i_and ?_)
  | (with_reducible refine i_or ?_)
  | (with_reducible refine i_not ?_)
  | (with_reducible refine i_tt ?_)
  | (with_reducible refine i_ff ?_)
  | (with_reducible refine i_nott ?_)
  | (with_reducible refine i_notf ?_)
  | (with_reducible refine i_andV ?_)
  | (with_reducible refine i_orV ?_)
  | (with_reducible refine i_notV ?_)
  | (with_reducible refine i_ifE ?_)
  | (with_reducible refine i_tup ?_)
  | (with_reducible refine i_lst ?_)
  | (with_reducible refine i_un ?_)
  | (with_reducible refine i_neg ?_)
  | (with_reducible refine i_chain ?_)
  | (with_reducible refine i_next ?_)
  | (with_reducible refine i_retN ?_)
  | (with_reducible refine i_drop ?_)
  | (with_reducible refine i_int_int ?_)
  | (with_reducible refine i_abs ?_)
  | (with_reducible refine i_m1c ?_)
  | (with_reducible refine i_is_non ?_)
  | (with_reducible refine i_is_int ?_)
  | (with_reducible refine i_is_bl ?_)
  | (with_reducible refine i_isn_bl ?_)
  | (with_reducible refine i_is_str ?_)
  | (with_reducible refine i_is_ref ?_)
  | (with_reducible refine i_isn_non ?_)
  | (with_reducible refine i_isn_int ?_)
  | (with_reducible refine i_isn_str ?_)
  | (with_reducible refine i_isn_ref ?_)
  | (with_reducible refine i_len_str ?h1 ?_; (case h1 => walk_at "o"))
  | (with_reducible refine i_callD ?_)
  | (with_reducible refine i_spD2 ?_)
  | (with_reducible refine i_spM1 ?_)
  | (with_reducible refine i_spM2 ?_)
  | (with_reducible refine i_spM3 ?_)
  | (with_reducible refine i_spM4 ?_)
  | (with_reducible refine i_spM3d ?_)
  | (with_reducible refine i_tfld ?_)
  | (with_reducible refine i_sfld ?_)
  | (with_reducible refine i_meth ?_)
  | (with_reducible refine i_make ?_)
  | (with_reducible refine i_spl ?_)
  | (with_reducible refine i_mkE2 ?_)
  | (with_reducible refine i_ex2 ?_)
  | (with_reducible refine i_dget ?_)
  | (with_reducible refine i_tru ?_)
  | (with_reducible refine i_dput ?_)
  | (with_reducible refine i_dnotin ?_)
  | (with_reducible refine i_din ?_)
  | (with_reducible refine i_isi_int_int ?_) | (with_reducible refine i_isi_int_bool ?_) | (with_reducible refine i_isi_int_str ?_) | (with_reducible refine i_isi_int_tuple ?_) | (with_reducible refine i_isi_int_list ?_)
  | (with_reducible refine i_isi_bl_int ?_) | (with_reducible refine i_isi_bl_bool ?_) | (with_reducible refine i_isi_bl_str ?_) | (with_reducible refine i_isi_bl_tuple ?_) | (with_reducible refine i_isi_bl_list ?_)
  | (with_reducible refine i_isi_str_int ?_) | (with_reducible refine i_isi_str_bool ?_) | (with_reducible refine i_isi_str_str ?_) | (with_reducible refine i_isi_str_tuple ?_) | (with_reducible refine i_isi_str_list ?_)
  | (with_reducible refine i_isi_non_int ?_) | (with_reducible refine i_isi_non_bool ?_) | (with_reducible refine i_isi_non_str ?_) | (with_reducible refine i_isi_non_tuple ?_) | (with_reducible refine i_isi_non_list ?_))
local macro_rules | `(tactic| walk_at "go") => `(tactic| (repeat' (walk_at "s")))
local macro_rules | `(tactic| walk_at "n") => `(tactic| simp only [wipe, List.map_cons, List.map_nil, List.set_cons_zero, List.set_cons_succ])
/-! ### plain values -/
def isIn : PyData → Int → Int → Bool
  | .int i, lo, hi => decide (lo ≤ i) && decide (i ≤ hi)
  | _, _, _ => false
theorem isIn_int (i lo hi : Int) : isIn (.int i) lo hi = (decide (lo ≤ i) && decide (i ≤ hi)) := rfl
section
variable {P : Program} {w : World} {K : PySem.W.Frag} {mg : Str → Option Value} {base : Heap} {C_GlimError C_BadOrder C_BadReader C_NoLine C_Orders : Addr}
def p_is_integer : P3 := fun x y z H Q _ => ∃ d lo hi, At H x d ∧ y = .int lo ∧ z = .int hi ∧ Q (.bl (isIn d lo hi)) H
theorem ok_is_integer (T : Txt K mg C_GlimError C_BadOrder C_BadReader C_NoLine C_Orders) : OK P w K mg base CX0 1 "is_integer" ["thing", "low", "high"] (sp3  p_is_integer) := by
  refine OK.mk (k := 0) T.d_is_integer sc_is_integer len3 fun f cdv A outer s H vs Q E hr h => ?_
  obtain ⟨x, y, z, rfl, h⟩ := h
  refine ⟨_, (pss_cons (ps_if (pw_or (pt_val (pe_callB (cIsi K) (by rfl) T.b_isinstance (by decide +kernel) (pa_cons (pv 0) (pa_cons (pe_bltn (v := .ty "bool") (by rfl) T.b_bool (by decide +kernel) rfl) pa_nil)))) (pw_or1 (pt_not (pt_val (pe_callB (cIsi K) (by rfl) T.b_isinstance (by decide +kernel) (pa_cons (pv 0) (pa_cons (pe_bltn (v := .ty "int") (by rfl) T.b_int (by decide +kernel) rfl) pa_nil))))))).pt (pss_one (ps_ret pe_bl)) pss_nil) (pss_one (ps_ret (pe_chain op_leP op_leP (pv 1) (pv 0) (pv 2))))), ?_⟩
  show (_ : TS) { nx := fun _ H' => Q .non H', rt := Q } [some x, some y, some z] H
  obtain ⟨d, lo, hi, hx, rfl, rfl, q⟩ := h
  cases d
  case int i =>
    obtain rfl := hx.intd
    rw [isIn_int] at q
    walk_at "go"
    refine i_dec (fun e => ?_) (fun e => ?_)
    · walk_at "go"
      rw [decide_eq_true e, Bool.true_and] at q
      exact q
    · rw [decide_eq_false e, Bool.false_and] at q
      exact q
  case bool b =>
    walk_at "go"
    refine i_isiBool true hx rfl ?_
    walk_at "go"
    exact q
  all_goals
    walk_at "go"
    refine i_isiBool false hx rfl ?_
    walk_at "go"
    refine i_isiInt false hx rfl ?_
    walk_at "go"
    exact q
def p_deepN (n : Nat) : P2 := fun x y H Q _ => ∃ A d z, Same A H ∧ At A x d ∧ y = .int z ∧ 0 ≤ z ∧ z + n ≤ 65 ∧ d.depth < n ∧ ∀ A' H' v, Ext A H A' H' → At A' v (deepD d) → Q v H'
theorem deep_n (T : Txt K mg C_GlimError C_BadOrder C_BadReader C_NoLine C_Orders) (n : Nat) (R : OK P w K mg base CX0 n "deep" ["thing", "level"] (sp2 (p_deepN n))) : OKD P w K mg base CX0 (n + 1) "deep" ["thing", "level"] [.int 0] (sp2 (p_deepN (n + 1))) := by
  refine OKD.mk (k := n) T.d_deep sc_deep len2 fun f cdv A outer s H vs Q E hr h => ?_
  obtain ⟨x, y, rfl, h⟩ := h
  refine ⟨_, (pss_cons (ps_if (pw_and (pt_val (pe_callB (cIsiT K) (by rfl) T.b_isinstance (by decide +kernel) (pa_cons (pv 0) (pa_cons (pe_tup (pa_cons (pe_bltn (v := .ty "list") (by rfl) T.b_list (by decide +kernel) rfl) (pa_cons (pe_bltn (v := .ty "tuple") (by rfl) T.b_tuple (by decide +kernel) rfl) pa_nil))) pa_nil)))) (pw_and1 (pt_cmpR op_ltP (pv 1) (pe_gI 70 T.g_MOST_LEVELS) (nomark _)))).pt (pss_one (ps_ret (pe_callTy (cTup K) (by rfl) T.b_tuple (by decide +kernel) (pa_cons (pe_lc (own := [("part", 2)]) (g := gName 2) (tt := tYes) (by rfl) sc_deep.nd (piAny K (pv 0)) (blkOk_by (own := [("part", 2)]) (N := ["thing", "level", "part"]) (sc := (defScope s_deep)) (by decide +kernel)) (fun _ _ _ _ _ => (pg_name (i := 2) sc_deep.nd rfl (Or.inl rfl))) (fun _ _ _ _ _ => pts_nil) (fun _ _ _ _ _ => (pe_f R (hr.mono (by omega)) pass0 (pa_cons (pv 2) (pa_cons (pe_op (opAdd K) (pv 1) pe_int) pa_nil))))) pa_nil)))) pss_nil) (pss_one (ps_ret (pv 0)))), ?_⟩
  show (_ : TS) { nx := fun _ H' => Q .non H', rt := Q } [some x, some y, none] H
  obtain ⟨A, d, z, sa, hx, rfl, z0, zn, dd, q⟩ := h
  walk_at "go"
  refine i_new (by show 2 ≤ 100000; omega) fun tp ntp => ?_
  have x1 := (Ext.refl sa).hid (o := .tup [.ty "list", .ty "tuple"]) ntp
  walk_at "go"
  cases d
  case list ds =>
    obtain ⟨a, xs, rfl, hH, hl, al⟩ := hx.listed
    have e1 : deepD (.list ds) = .tuple (ds.map deepD) := by rw [← deepDs_map]; rfl
    have d1 : PyData.depthAll ds + 1 < n + 1 := dd
    rw [e1] at q
    refine i_isiSeq true (x1.up hx) upd_same rfl ?_
    walk_at "go"
    rw [decide_eq_true (show z < 70 by omega)]
    walk_at "go"
    refine c_lstD x1.ag (fun R k => by walk_at "go"; exact k) (.inl (.inl (x1.ag _ _ hH))) al hl deepD (fun _ => rfl) (fun y d A1 G1 hd hy y1 QV k => ?_) (fun Dl A1 G1 l y1 e ea al2 ll => ?_)
    · show (_ : TE) [some (.ref a), some (.int z), some y] G1 QV
      have d2 := depth_mem hd
      walk_at "go"
      exact ⟨A1, d, z + 1, y1.ag, hy, rfl, by omega, by omega, by omega, k⟩
    · walk_at "go"
      refine i_tuple_lst (.inl (.inl e)) fun tl ntl => ?_
      have na : A1 tl = none := y1.ag.free ntl
      have hds := al.len
      exact q _ _ _ ((x1.trans y1).new ntl) (At.mkTup upd_same (al2.same (same_upd na)) (by rw [List.length_map]; omega))
  case tuple ds =>
    obtain ⟨a, xs, rfl, hH, hl, al⟩ := hx.tupled
    have e1 : deepD (.tuple ds) = .tuple (ds.map deepD) := by rw [← deepDs_map]; rfl
    have d1 : PyData.depthAll ds + 1 < n + 1 := dd
    rw [e1] at q
    refine i_isiSeq true (x1.up hx) upd_same rfl ?_
    walk_at "go"
    rw [decide_eq_true (show z < 70 by omega)]
    walk_at "go"
    refine c_tupD x1.ag (fun R k => by walk_at "go"; exact k) (.inl (.inl (x1.ag _ _ hH))) al hl deepD (fun _ => rfl) (fun y d A1 G1 hd hy y1 QV k => ?_) (fun Dl A1 G1 l y1 e ea al2 ll => ?_)
    · show (_ : TE) [some (.ref a), some (.int z), some y] G1 QV
      have d2 := depth_mem hd
      walk_at "go"
      exact ⟨A1, d, z + 1, y1.ag, hy, rfl, by omega, by omega, by omega, k⟩
    · walk_at "go"
      refine i_tuple_lst (.inl (.inl e)) fun tl ntl => ?_
      have na : A1 tl = none := y1.ag.free ntl
      have hds := al.len
      exact q _ _ _ ((x1.trans y1).new ntl) (At.mkTup upd_same (al2.same (same_upd na)) (by rw [List.length_map]; omega))
  all_goals
    refine i_isiSeq false (x1.up hx) upd_same rfl ?_
    walk_at "go"
    exact q _ _ _ x1 hx
theorem deep_all (T : Txt K mg C_GlimError C_BadOrder C_BadReader C_NoLine C_Orders) : ∀ n, OK P w K mg base CX0 n "deep" ["thing", "level"] (sp2 (p_deepN n))
  | 0 => OK.weak (OK.never T.d_deep) fun vs H Q E h => by
    obtain ⟨_, _, _, _, _, _, _, _, _, _, z, _⟩ := h
    omega
  | n + 1 => (deep_n T n (deep_all T n)).full
theorem ok_deep (T : Txt K mg C_GlimError C_BadOrder C_BadReader C_NoLine C_Orders) : OKD P w K mg base CX0 6 "deep" ["thing", "level"] [.int 0] (sp2 (p_deepN 6)) := deep_n T 5 (deep_all T 5)
end
end K42
namespace K42
open PySem PySem.Spec PyProof.Rows L2 Fg
local macro_rules | `(tactic| walk_at "sq") => `(tactic| first
  | assumption
  | exact .inl (.inl (by assumption))
  | exact .inl (.inl upd_same))
local macro_rules | `(tactic| walk_at "st") => `(tactic| first
  | assumption
  | exact .inl (.inl (by assumption))
  | exact .inl (.inl upd_same))
local macro_rules | `(tactic| walk_at "o") => `(tactic| first
  | omega
  | assumption
  | (simp only [List.length_append, List.length_take, List.length_drop, List.length_cons, List.length_nil, List.length_singleton, List.length_map, List.length_range, Int.toNat_natCast] ; omega))
local macro_rules | `(tactic| walk_at "s") => `(tactic| first
  | (with_reducible refine i_seq ?_)
  | (with_reducible refine i_asg ?_)
  | ((with_reducible refine' i_var ?h1 ?_); (case h1 => rfl))
  | (with_reducible refine i_c ?_)
  | ((with_reducible refine' i_gname' ?h1 ?_); (case h1 => (simp only [List.set_cons_zero, List.set_cons_succ]; rfl)))
  | (with_reducible refine i_op ?_)
  | (with_reducible refine i_ifS ?_)
  | (with_reducible refine i_for ?_)
  | (with_reducible refine i_test ?_)
  | (with_reducible refine i_B ?_)
  | (with_reducible refine i_exbl ?_)
  | (with_reducible refine i_exint ?_)
  | (with_reducible refine i_cb ?_)
  | (with_reducible refine i_nil ?_)
  | (with_reducible refine i_cons ?_)
  | (with_reducible refine i_ret ?_)
  | (with_reducible refine i_sl ?_)
  | (with_reducible refine i_nopart ?_)
  | (with_reducible refine i_part ?_)
  | (with_reducible refine i_add_int ?_)
  | (with_reducible refine i_sub ?_)
  | (with_reducible refine i_lt ?_)
  | ((with_reducible refine' i_mod ?h1 ?_); (case h1 => walk_at "o"))
  | ((with_reducible refine' i_fdiv ?h1 ?_); (case h1 => (refine cdiv_small ?_ ?_ <;> walk_at "o")))
  | ((with_reducible refine' i_sl_to ?h1 ?h2 ?_); (case h1 => walk_at "o"); (case h2 => walk_at "o"))
  | ((with_reducible refine' i_sl_from ?h1 ?h2 ?_); (case h1 => walk_at "o"); (case h2 => walk_at "o"))
  | ((with_reducible refine' i_add_str ?h1 ?_); (case h1 => walk_at "o"))
  | ((with_reducible refine' i_mul_int ?h1 ?_); (case h1 => first | (refine mul_small ?_ ?_ <;> walk_at "o") | (refine mul_smallR ?_ ?_ <;> walk_at "o")))
  | (with_reducible refine i_le ?_)
  | (with_reducible refine i_gt ?_)
  | (with_reducible refine i_ge ?_)
  | (with_reducible refine i_eq_int ?_)
  | (with_reducible refine i_eq_str ?_)
  | (with_reducible refine i_ne_int ?_)
  | (with_reducible refine i_ne_str ?_)
  | (with_reducible refine i_eq_bl ?_)
  | (with_reducible refine i_ne_bl ?_)
  | (with_reducible refine i_in_sg ?_)
  | (with_reducible refine i_notIn_sg ?_)
  | (with_reducible refine i_call ?_)
  | (with_reducible refine i_callS ?_)
  | (with_reducible refine i_sp1 ?_)
  | (with_reducible refine i_sp2 ?_)
  | (with_reducible refine i_sp3 ?_)
  | (with_reducible refine i_sp4 ?_)
  | (with_reducible refine i_sp1' ?_)
  | (with_reducible refine i_sp2' ?_)
  | (with_reducible refine i_sp3' ?_)
  | ((with_reducible refine' i_ix_lst ?h1 ?h2 ?_); (case h1 => walk_at "sq"); (case h2 => first | exact atI_nat rfl | rfl))
  | ((with_reducible refine' i_ix_tup ?h1 ?h2 ?_); (case h1 => walk_at "st"); (case h2 => first | exact atI_nat rfl | rfl))
  | (with_reducible refine i_gsub ?_)
  | (with_reducible refine i_par ?_)
  | (with_reducible refine i_lstRg1 ?_)
  | (with_reducible refine i_app ?_)
  | (with_reducible refine i_par2 ?_)
  | ((with_reducible refine' i_aug ?h1 ?_); (case h1 => rfl))
  | (with_reducible refine i_ipI ?_)
  | ((with_reducible refine' i_gtup2 ?h1 ?_); (case h1 => walk_at "st"))
  | (with_reducible refine i_int_bl ?_)
  | (with_reducible refine i_raise ?_)
  | (with_reducible refine i_mkE ?_)
  | (with_reducible refine i_ex1 ?_)
  | (with_reducible refine i_and ?_)
  | (with_reducible refine i_or ?_)
  | (with_reducible refine i_not ?_)
  | (with_reducible refine i_tt ?_)
  | (with_reducible refine i_ff ?_)
  | (with_reducible refine i_nott ?_)
  | (with_reducible refine i_notf ?_)
  | (with_reducible refine i_andV ?_)
  | (with_reducible refine i_orV ?_)
  | (with_reducible refine i_notV ?_)
  | (with_reducible refine i_ifE ?_)
  | (with_reducible refine i_tup ?_)
  | (with_reducible refine i_lst ?_)
  | (with_reducible refine i_un ?_)
  | (with_reducible refine i_neg ?_)
  | (with_reducible refine i_chain ?_)
  | (with_reducible refine i_next ?_)
  | (with_reducible refine i_retN ?_)
  | (with_reducible refine i_drop ?_)
  | (with_reducible refine i_int_int ?_)
  | (with_reducible refine i_abs ?_)
  | (with_reducible refine i_m1c ?_)
  | (with_reducible refine i_is_non ?_)
  | (with_reducible refine i_is_int ?_)
  | (with_reducible refine i_is_bl ?_)
  | (with_reducible refine i_isn_bl ?_)
  | (with_reducible refine i_is_str ?_)
  | (with_reducible refine i_is_ref ?_)
  | (with_reducible refine i_isn_non ?_)
  | (with_reducible refine i_isn_int ?_)
  | (with_reducible refine i_isn_str ?_)
  | (with_reducible refine i_isn_ref ?_)
  | (with_reducible refine i_len_str ?h1 ?_; (case h1 => walk_at "o"))
  | (with_reducible refine i_callD ?_)
  | (with_reducible refine i_spD2 ?_)
  | (with_reducible refine i_spM1 ?_)
  | (with_reducible refine i_spM2 ?_)
  | (with_reducible refine i_spM3 ?_)
  | (with_reducible refine i_spM4 ?_)
  | (with_reducible refine i_spM3d ?_)
  | (with_reducible refine i_tfld ?_)
  | (with_reducible refine i_sfld ?_)
  | (with_reducible refine i_meth ?_)
  | (with_reducible refine i_make ?_)
  | (with_reducible refine i_spl ?_)
  | (with_reducible refine i_mkE2 ?_)
  | (with_reducible refine i_ex2 ?_)
  | (with_reducible refine i_dget ?_)
  | (with_reducible refine i_tru ?_)
  | (with_reducible refine i_dput ?_)
  | (with_reducible refine i_dnotin ?_)
  | (with_reducible refine i_din ?_)
  | (with_reducible refine i_isi_int_int ?_) | (with_reducible refine i_isi_int_bool ?_) | (with_reducible refine i_isi_int_str ?_) | (with_reducible refine i_isi_int_tuple ?_) | (with_reducible refine i_isi_int_list ?_)
  | (with_reducible refine i_isi_bl_int ?_) | (with_reducible refine i_isi_bl_bool ?_) | (with_reducible refine i_isi_bl_str ?_) | (with_reducible refine i_isi_bl_tuple ?_) | (with_reducible refine i_isi_bl_list ?_)
  | (with_reducible refine i_isi_str_int ?_) | (with_reducible refine i_isi_str_bool ?_) | (with_reducible refine i_isi_str_str ?_) | (with_reducible refine i_isi_str_tuple ?_) | (with_reducible refine i_isi_str_list ?_)
  | (with_reducible refine i_isi_non_int ?_) | (with_reducible refine i_isi_non_bool ?_) | (with_reducible refine i_isi_non_str ?_) | (with_reducible refine i_isi_non_tuple ?_) | (with_reducible refine i_isi_non_list ?_))
local macro_rules | `(tactic| walk_at "go") => `(tactic| (repeat' (walk_at "s")))
local macro_rules | `(tactic| walk_at "n") => `(tactic| simp only [wipe, List.map_cons, List.map_nil, List.set_cons_zero, List.set_cons_succ])
/-! ### marks, names, sets of signs -/
abbrev MK : List Nat := [97, 98, 99, 100, 101, 102, 103, 104, 105, 106, 107, 108, 109, 110, 111, 112, 113, 114, 115, 116, 117, 118, 119, 120, 121, 122, 48, 49, 50, 51, 52, 53, 54, 55, 56, 57]
def isMkL (l : List Nat) : Bool := decide (l.length ≤ 8) && l.all fun c => decide (c ∈ MK)
def isMk : PyData → Bool
  | .str x => isMkL x.cps.toList
  | _ => false
def isNm : PyData → Bool
  | .str x => isMkL x.cps.toList && decide (x.cps.toList ≠ [])
  | _ => false
def sgsL (l : List Nat) : Bool := decide (l ≠ []) && decide (l = SG.filter fun c => decide (c ∈ l))
def isSgs : PyData → Bool
  | .str x => sgsL x.cps.toList
  | _ => false
theorem all_take {l : List Nat} {P : Nat → Prop} (h : ∀ c ∈ l.take l.length, P c) : ∀ c ∈ l, P c := by rw [List.take_length] at h; exact h
theorem take_step {l : List Nat} {P : Nat → Prop} {i c : Nat} (hc : l[i]? = some c) (h : ∀ c ∈ l.take i, P c) (k : P c) : ∀ c ∈ l.take (i + 1), P c := by
  rw [List.take_succ, hc]
  intro x hx
  rcases List.mem_append.mp hx with hx | hx
  · exact h x hx
  · have : x = c := by simpa using hx
    rw [this]; exact k
section
variable {P : Program} {w : World} {K : PySem.W.Frag} {mg : Str → Option Value} {base : Heap} {C_GlimError C_BadOrder C_BadReader C_NoLine C_Orders : Addr}
def p_is_mark : P1 := fun x H Q _ => ∃ d, At H x d ∧ Q (.bl (isMk d)) H
theorem ok_is_mark (T : Txt K mg C_GlimError C_BadOrder C_BadReader C_NoLine C_Orders) : OK P w K mg base CX0 1 "is_mark" ["thing"] (sp1  p_is_mark) := by
  refine OK.mk (k := 0) T.d_is_mark sc_is_mark len1 fun f cdv A outer s H vs Q E hr h => ?_
  obtain ⟨x, rfl, h⟩ := h
  refine ⟨_, (pss_cons (ps_if (pw_or (pt_not (pt_val (pe_callB (cIsi K) (by rfl) T.b_isinstance (by decide +kernel) (pa_cons (pv 0) (pa_cons (pe_bltn (v := .ty "str") (by rfl) T.b_str (by decide +kernel) rfl) pa_nil))))) (pw_or1 (pt_cmpR op_gtP (pe_callB (cLen K) (by rfl) T.b_len (by decide +kernel) (pa_cons (pv 0) pa_nil)) pe_int (nomark _)))).pt (pss_one (ps_ret pe_bl)) pss_nil) (pss_cons (ps_for PassesOwn.never rfl (piAny K (pv 0)) (pg_name (i := 1) sc_is_mark.nd rfl (Or.inl rfl)) (pss_one (ps_if (pt_cmpR (opNotIn K) (pv 1) (pe_gS [97, 98, 99, 100, 101, 102, 103, 104, 105, 106, 107, 108, 109, 110, 111, 112, 113, 114, 115, 116, 117, 118, 119, 120, 121, 122, 48, 49, 50, 51, 52, 53, 54, 55, 56, 57] T.g_MARK_SIGNS) (by with_unfolding_all rfl)) (pss_one (ps_ret pe_bl)) pss_nil))) (pss_one (ps_ret pe_bl)))), ?_⟩
  show (_ : TS) { nx := fun _ H' => Q .non H', rt := Q } [some x, none] H
  obtain ⟨d, hx, q⟩ := h
  cases d
  case str z =>
    obtain ⟨l, rfl, rfl, hl⟩ := hx.strl
    change Q (.bl (isMkL l)) H at q
    unfold isMkL at q
    walk_at "go"
    refine i_dec (fun e => ?_) (fun e => ?_)
    · rw [decide_eq_false (show ¬ l.length ≤ 8 by omega), Bool.false_and] at q
      walk_at "go"
      exact q
    rw [decide_eq_true (show l.length ≤ 8 by omega), Bool.true_and] at q
    walk_at "go"
    refine i_forS (fun i σ' H' => ∃ v, σ' = [some (S l), v] ∧ H' = H ∧ ∀ c ∈ l.take i, c ∈ MK) ⟨none, rfl, rfl, by simp⟩ ?_ ?_
    · rintro i c σ' H' hc ⟨v, rfl, rfl, hm⟩
      show (_ : TS) _ [some (S l), some (S [c])] H'
      walk_at "go"
      refine i_decN (fun e => ?_) (fun e => ?_)
      · have : (l.all fun c => decide (c ∈ MK)) = false := by
          rw [List.all_eq_false]
          exact ⟨c, List.mem_of_getElem? hc, by simpa using e⟩
        rw [this] at q
        walk_at "go"
        exact q
      · walk_at "go"
        exact ⟨_, rfl, rfl, take_step hc hm e⟩
    · rintro σ' H' ⟨v, rfl, rfl, hm⟩
      have hm := all_take hm
      have : (l.all fun c => decide (c ∈ MK)) = true := List.all_eq_true.mpr fun c hc => decide_eq_true (hm c hc)
      rw [this] at q
      walk_at "go"
      exact q
  all_goals
    walk_at "go"
    refine i_isiStr false hx rfl ?_
    walk_at "go"
    exact q
def p_is_name : P1 := fun x H Q _ => ∃ d, At H x d ∧ Q (.bl (isNm d)) H
theorem ok_is_name (T : Txt K mg C_GlimError C_BadOrder C_BadReader C_NoLine C_Orders) : OK P w K mg base CX0 2 "is_name" ["thing"] (sp1  p_is_name) := by
  refine OK.mk (k := 1) T.d_is_name sc_is_name len1 fun f cdv A outer s H vs Q E hr h => ?_
  obtain ⟨x, rfl, h⟩ := h
  refine ⟨_, (pss_one (ps_ret (pe_and (pe_f (ok_is_mark (K := K) T) (hr.mono (by decide)) pass0 (pa_cons (pv 0) pa_nil)) (pe_one (pe_cmpR (opNe K hr.units) (pv 0) (pe_S []) (nomark _)))))), ?_⟩
  show (_ : TS) { nx := fun _ H' => Q .non H', rt := Q } [some x] H
  obtain ⟨d, hx, q⟩ := h
  walk_at "go"
  refine ⟨d, hx, ?_⟩
  cases d
  case str z =>
    obtain ⟨l, rfl, rfl, hl⟩ := hx.strl
    change Q (.bl (isMkL l && decide (l ≠ []))) H at q
    show ∃ c, V.bl (isMkL l) = .bl c ∧ _
    refine ⟨_, rfl, ?_⟩
    cases hm : isMkL l with
    | false =>
      rw [hm] at q
      walk_at "go"
      exact q
    | true =>
      rw [hm, Bool.true_and] at q
      walk_at "go"
      have e : decide (l ≠ []) = !decide (l = []) := by simp
      rw [e] at q
      exact q
  all_goals
    refine ⟨_, rfl, ?_⟩
    rw [show isMk _ = false from rfl]
    walk_at "go"
    exact q
def p_is_signs : P1 := fun x H Q _ => ∃ d, At H x d ∧ ∀ H', Same H H' → Q (.bl (isSgs d)) H'
theorem ok_is_signs (T : Txt K mg C_GlimError C_BadOrder C_BadReader C_NoLine C_Orders) : OK P w K mg base CX0 1 "is_signs" ["thing"] (sp1  p_is_signs) := by
  refine OK.mk (k := 0) T.d_is_signs sc_is_signs len1 fun f cdv A outer s H vs Q E hr h => ?_
  obtain ⟨x, rfl, h⟩ := h
  refine ⟨_, (pss_cons (ps_if (pw_or (pt_not (pt_val (pe_callB (cIsi K) (by rfl) T.b_isinstance (by decide +kernel) (pa_cons (pv 0) (pa_cons (pe_bltn (v := .ty "str") (by rfl) T.b_str (by decide +kernel) rfl) pa_nil))))) (pw_or1 (pt_cmpR (opEq K hr.units) (pv 0) (pe_S []) (nomark _)))).pt (pss_one (ps_ret pe_bl)) pss_nil) (pss_one (ps_ret (pe_cmpR (opEq K hr.units) (pv 0) (peJoin K (pe_S []) (pe_lc (own := [("sign", 1)]) (g := gName 1) (by rfl) sc_is_signs.nd (piAny K (pe_gS [46, 103, 114, 119] T.g_SIGNS)) (blkOk_by (own := [("sign", 1)]) (N := ["thing", "sign"]) (sc := (defScope s_is_signs)) (by decide +kernel)) (fun _ _ _ _ _ => (pg_name (i := 1) sc_is_signs.nd rfl (Or.inl rfl))) (fun _ _ _ _ _ => (pts_one (pt_cmpR (opIn K) (pv 1) (pv 0) (by with_unfolding_all rfl)))) (fun _ _ _ _ _ => (pv 1)))) (nomark _))))), ?_⟩
  show (_ : TS) { nx := fun _ H' => Q .non H', rt := Q } [some x, none] H
  obtain ⟨d, hx, q⟩ := h
  have q0 := q H (Same.refl H)
  cases d
  case str z =>
    obtain ⟨l, rfl, rfl, hl⟩ := hx.strl
    replace q : ∀ H', Same H H' → Q (.bl (sgsL l)) H' := q
    unfold sgsL at q
    walk_at "go"
    refine i_dec (fun e => ?_) (fun e => ?_)
    · walk_at "go"
      have := q H (Same.refl H)
      rw [decide_eq_false (show ¬ l ≠ [] from fun z => z e), Bool.false_and] at this
      exact this
    rw [decide_eq_true (show l ≠ [] from e)] at q
    walk_at "go"
    refine c_strF (z := SG) (fun c => decide (c ∈ l)) (fun R k => by walk_at "go"; exact k) (by decide) (fun _ => rfl) (fun c H2 hc s2 QB k => ?_) (fun c H2 hc s2 QV k => ?_) (fun Dl H2 n2 s2 d2 => ?_)
    · show (_ : TT) [some (S l), some (S [c])] H2 QB
      walk_at "go"
      exact k H2 (Same.refl H2)
    · show (_ : TE) [some (S l), some (S [c])] H2 QV
      walk_at "go"
      exact k H2 (Same.refl H2)
    · walk_at "go"
      refine i_join1 (.inl (.inl d2)) ?_ ?_
      · have := List.length_filter_le (fun c => decide (c ∈ l)) SG
        have : SG.length = 4 := rfl
        omega
      · walk_at "go"
        exact q H2 s2
  all_goals
    walk_at "go"
    refine i_isiStr false hx rfl ?_
    walk_at "go"
    exact q0
end
end K42
namespace K42
open PySem PySem.Spec PyProof.Rows L2 Fg
local macro_rules | `(tactic| walk_at "sq") => `(tactic| first
  | assumption
  | exact .inl (.inl (by assumption))
  | exact .inl (.inl upd_same))
local macro_rules | `(tactic| walk_at "st") => `(tactic| first
  | assumption
  | exact .inl (.inl (by assumption))
  | exact .inl (.inl upd_same))
local macro_rules | `(tactic| walk_at "o") => `(tactic| first
  | omega
  | assumption
  | (simp only [List.length_append, List.length_take, List.length_drop, List.length_cons, List.length_nil, List.length_singleton, List.length_map, List.length_range, Int.toNat_natCast] ; omega))
local macro_rules | `(tactic| walk_at "s") => `(tactic| first
  | (with_reducible refine i_seq ?_)
  | (with_reducible refine i_asg ?_)
  | ((with_reducible refine' i_var ?h1 ?_); (case h1 => rfl))
  | (with_reducible refine i_c ?_)
  | ((with_reducible refine' i_gname' ?h1 ?_); (case h1 => (simp only [List.set_cons_zero, List.set_cons_succ]; rfl)))
  | (with_reducible refine i_op ?_)
  | (with_reducible refine i_ifS ?_)
  | (with_reducible refine i_for ?_)
  | (with_reducible refine i_test ?_)
  | (with_reducible refine i_B ?_)
  | (with_reducible refine i_exbl ?_)
  | (with_reducible refine i_exint ?_)
  | (with_reducible refine i_cb ?_)
  | (with_reducible refine i_nil ?_)
  | (with_reducible refine i_cons ?_)
  | (with_reducible refine i_ret ?_)
  | (with_reducible refine i_sl ?_)
  | (with_reducible refine i_nopart ?_)
  | (with_reducible refine i_part ?_)
  | (with_reducible refine i_add_int ?_)
  | (with_reducible refine i_sub ?_)
  | (with_reducible refine i_lt ?_)
  | ((with_reducible refine' i_mod ?h1 ?_); (case h1 => walk_at "o"))
  | ((with_reducible refine' i_fdiv ?h1 ?_); (case h1 => (refine cdiv_small ?_ ?_ <;> walk_at "o")))
  | ((with_reducible refine' i_sl_to ?h1 ?h2 ?_); (case h1 => walk_at "o"); (case h2 => walk_at "o"))
  | ((with_reducible refine' i_sl_from ?h1 ?h2 ?_); (case h1 => walk_at "o"); (case h2 => walk_at "o"))
  | ((with_reducible refine' i_add_str ?h1 ?_); (case h1 => walk_at "o"))
  | ((with_reducible refine' i_mul_int ?h1 ?_); (case h1 => first | (refine mul_small ?_ ?_ <;> walk_at "o") | (refine mul_smallR ?_ ?_ <;> walk_at "o")))
  | (with_reducible refine i_le ?_)
  | (with_reducible refine i_gt ?_)
  | (with_reducible refine i_ge ?_)
  | (with_reducible refine i_eq_int ?_)
  | (with_reducible refine i_eq_str ?_)
  | (with_reducible refine i_ne_int ?_)
  | (with_reducible refine i_ne_str ?_)
  | (with_reducible refine i_eq_bl ?_)
  | (with_reducible refine i_ne_bl ?_)
  | (with_reducible refine i_in_sg ?_)
  | (with_reducible refine i_notIn_sg ?_)
  | (with_reducible refine i_call ?_)
  | (with_reducible refine i_callS ?_)
  | (with_reducible refine i_sp1 ?_)
  | (with_reducible refine i_sp2 ?_)
  | (with_reducible refine i_sp3 ?_)
  | (with_reducible refine i_sp4 ?_)
  | (with_reducible refine i_sp1' ?_)
  | (with_reducible refine i_sp2' ?_)
  | (with_reducible refine i_sp3' ?_)
  | ((with_reducible refine' i_ix_lst ?h1 ?h2 ?_); (case h1 => walk_at "sq"); (case h2 => first | exact atI_nat rfl | rfl))
  | ((with_reducible refine' i_ix_tup ?h1 ?h2 ?_); (case h1 => walk_at "st"); (case h2 => first | exact atI_nat rfl | rfl))
  | (with_reducible refine i_gsub ?_)
  | (with_reducible refine i_par ?_)
  | (with_reducible refine i_lstRg1 ?_)
  | (with_reducible refine i_app ?_)
  | (with_reducible refine i_par2 ?_)
  | ((with_reducible refine' i_aug ?h1 ?_); (case h1 => rfl))
  | (with_reducible refine i_ipI ?_)
  | ((with_reducible refine' i_gtup2 ?h1 ?_); (case h1 => walk_at "st"))
  | (with_reducible refine i_int_bl ?_)
  | (with_reducible refine i_raise ?_)
  | (with_reducible refine i_mkE ?_)
  | (with_reducible refine i_ex1 ?_)
  | (with_reducible refine i_and ?_)
  | (with_reducible refine i_or ?_)
  | (with_reducible refine i_not ?_)
  | (with_reducible refine i_tt ?_)
  | (with_reducible refine i_ff ?_)
  | (with_reducible refine i_nott ?_)
  | (with_reducible refine i_notf ?_)
  | (with_reducible refine i_andV ?_)
  | (with_reducible refine i_orV ?_)
  | (with_reducible refine i_notV ?_)
  | (with_reducible refine i_ifE ?_)
  | (with_reducible refine i_tup ?_)
  | (with_reducible refine i_lst ?_)
  | (with_reducible refine i_un ?_)
  | (with_reducible refine i_neg ?_)
  | (with_reducible refine i_chain ?_)
  | (with_reducible refine i_next ?_)
  | (with_reducible refine i_retN ?_)
  | (with_reducible refine i_drop ?_)
  | (with_reducible refine i_int_int ?_)
  | (with_reducible refine i_abs ?_)
  | (with_reducible refine i_m1c ?_)
  | (with_reducible refine i_is_non ?_)
  | (with_reducible refine i_is_int ?_)
  | (with_reducible refine i_is_bl ?_)
  | (with_reducible refine i_isn_bl ?_)
  | (with_reducible refine i_is_str ?_)
  | (with_reducible refine i_is_ref ?_)
  | (with_reducible refine i_isn_non ?_)
  | (with_reducible refine i_isn_int ?_)
  | (with_reducible refine i_isn_str ?_)
  | (with_reducible refine i_isn_ref ?_)
  | (with_reducible refine i_len_str ?h1 ?_; (case h1 => walk_at "o"))
  | (with_reducible refine i_callD ?_)
  | (with_reducible refine i_spD2 ?_)
  | (with_reducible refine i_spM1 ?_)
  | (with_reducible refine i_spM2 ?_)
  | (with_reducible refine i_spM3 ?_)
  | (with_reducible refine i_spM4 ?_)
  | (with_reducible refine i_spM3d ?_)
  | (with_reducible refine i_tfld ?_)
  | (with_reducible refine i_sfld ?_)
  | (with_reducible refine i_meth ?_)
  | (with_reducible refine i_make ?_)
  | (with_reducible refine i_spl ?_)
  | (with_reducible refine i_mkE2 ?_)
  | (with_reducible refine i_ex2 ?_)
  | (with_reducible refine i_dget ?_)
  | (with_reducible refine i_tru ?_)
  | (with_reducible refine i_dput ?_)
  | (with_reducible refine i_dnotin ?_)
  | (with_reducible refine i_din ?_)
  | (with_reducible refine i_isi_int_int ?_) | (with_reducible refine i_isi_int_bool ?_) | (with_reducible refine i_isi_int_str ?_) | (with_reducible refine i_isi_int_tuple ?_) | (with_reducible refine i_isi_int_list ?_)
  | (with_reducible refine i_isi_bl_int ?_) | (with_reducible refine i_isi_bl_bool ?_) | (with_reducible refine i_isi_bl_str ?_) | (with_reducible refine i_isi_bl_tuple ?_) | (with_reducible refine i_isi_bl_list ?_)
  | (with_reducible refine i_isi_str_int ?_) | (with_reducible refine i_isi_str_bool ?_) | (with_reducible refine i_isi_str_str ?_) | (with_reducible refine i_isi_str_tuple ?_) | (with_reducible refine i_isi_str_list ?_)
  | (with_reducible refine i_isi_non_int ?_) | (with_reducible refine i_isi_non_bool ?_) | (with_reducible refine i_isi_non_str ?_) | (with_reducible refine i_isi_non_tuple ?_) | (with_reducible refine i_isi_non_list ?_))
local macro_rules | `(tactic| walk_at "go") => `(tactic| (repeat' (walk_at "s")))
local macro_rules | `(tactic| walk_at "n") => `(tactic| simp only [wipe, List.map_cons, List.map_nil, List.set_cons_zero, List.set_cons_succ])
/-! ### lines of orders -/
abbrev cWait : List Nat := [119, 97, 105, 116]
abbrev cCount : List Nat := [99, 111, 117, 110, 116]
abbrev cPass : List Nat := [112, 97, 115, 115]
abbrev cMore : List Nat := [109, 111, 114, 101]
abbrev cLast : List Nat := [108, 97, 115, 116]
abbrev cGo : List Nat := [103, 111]
abbrev cName : List Nat := [110, 97, 109, 101]
abbrev cSkip : List Nat := [115, 107, 105, 112]
def fWait : List PyData → Bool
  | [a, b] => isSgs a && isIn b 1 9
  | _ => false
def fCount : List PyData → Bool
  | [a, b, c] => isSgs a && isSgs b && isIn c 1 9
  | _ => false
def fPass : List PyData → Bool
  | [a] => isIn a 1 9
  | _ => false
def fMore (m : Int) : List PyData → Bool
  | [a, b] => isIn a 1 9 && isIn b 0 (m - 1)
  | _ => false
def fLast (m : Int) : List PyData → Bool
  | [a, b] => isSgs a && isIn b 0 (m - 1)
  | _ => false
def fGo (m : Int) : List PyData → Bool
  | [a] => isIn a 0 (m - 1)
  | _ => false
def fName : List PyData → Bool
  | [a] => isNm a
  | _ => false
def ordD (m : Int) (w : PyData) (r : List PyData) : Bool :=
  if eqS w cWait = true then fWait r else if eqS w cCount = true then fCount r else if eqS w cPass = true then fPass r else if eqS w cMore = true then fMore m r else
  if eqS w cLast = true then fLast m r else if eqS w cGo = true then fGo m r else if eqS w cName = true then fName r else eqS w cSkip && decide (r.length = 0)
def isOrd (m : Int) : PyData → Bool
  | .tuple (w :: r) => ordD m w r
  | _ => false
theorem one_of {α : Type} {r : List α} (h : r.length = 1) : ∃ m, r = [m] := List.length_eq_one_iff.mp h
theorem two_of {α : Type} {r : List α} (h : r.length = 2) : ∃ m n, r = [m, n] := by
  match r, h with
  | [m, n], _ => exact ⟨m, n, rfl⟩
theorem three_of {α : Type} {r : List α} (h : r.length = 3) : ∃ m n o, r = [m, n, o] := by
  match r, h with
  | [m, n, o], _ => exact ⟨m, n, o, rfl⟩
section
variable {P : Program} {w : World} {K : PySem.W.Frag} {mg : Str → Option Value} {base : Heap} {C_GlimError C_BadOrder C_BadReader C_NoLine C_Orders : Addr}
def p_is_order : P2 := fun x y H Q _ => ∃ d m, At H x d ∧ y = .int m ∧ d.canLay0 = true ∧ d.depth ≤ 60 ∧ ∀ H', Same H H' → Q (.bl (isOrd m d)) H'
theorem ok_is_order (T : Txt K mg C_GlimError C_BadOrder C_BadReader C_NoLine C_Orders) : OK P w K mg base CX0 3 "is_order" ["thing", "many"] (sp2  p_is_order) := by
  refine OK.mk (k := 2) T.d_is_order sc_is_order len2 fun f cdv A outer s H vs Q E hr h => ?_
  obtain ⟨x, y, rfl, h⟩ := h
  refine ⟨_, (pss_cons (ps_if (pw_or (pt_not (pt_val (pe_callB (cIsi K) (by rfl) T.b_isinstance (by decide +kernel) (pa_cons (pv 0) (pa_cons (pe_bltn (v := .ty "tuple") (by rfl) T.b_tuple (by decide +kernel) rfl) pa_nil))))) (pw_or1 (pt_cmpR (opEq K hr.units) (pe_callB (cLen K) (by rfl) T.b_len (by decide +kernel) (pa_cons (pv 0) pa_nil)) pe_int (nomark _)))).pt (pss_one (ps_ret pe_bl)) pss_nil) (pss_cons (ps_set (i := 2) sc_is_order.nd rfl (Or.inl rfl) (pe_ix (ixK K) (pv 0) pe_int (fun _ _ => rfl))) (pss_cons (ps_if (pt_cmpR (opEq K hr.units) (pv 2) (pe_S [119, 97, 105, 116]) (nomark _)) (pss_one (ps_ret (pe_and (pe_cmpR (opEq K hr.units) (pe_callB (cLen K) (by rfl) T.b_len (by decide +kernel) (pa_cons (pv 0) pa_nil)) pe_int (nomark _)) (pe_and (pe_f (ok_is_signs (K := K) T) (hr.mono (by decide)) pass0 (pa_cons (pe_ix (ixK K) (pv 0) pe_int (fun _ _ => rfl)) pa_nil)) (pe_one (pe_f (ok_is_integer (K := K) T) (hr.mono (by decide)) pass0 (pa_cons (pe_ix (ixK K) (pv 0) pe_int (fun _ _ => rfl)) (pa_cons pe_int (pa_cons pe_int pa_nil))))))))) pss_nil) (pss_cons (ps_if (pt_cmpR (opEq K hr.units) (pv 2) (pe_S [99, 111, 117, 110, 116]) (nomark _)) (pss_one (ps_ret (pe_and (pe_cmpR (opEq K hr.units) (pe_callB (cLen K) (by rfl) T.b_len (by decide +kernel) (pa_cons (pv 0) pa_nil)) pe_int (nomark _)) (pe_and (pe_f (ok_is_signs (K := K) T) (hr.mono (by decide)) pass0 (pa_cons (pe_ix (ixK K) (pv 0) pe_int (fun _ _ => rfl)) pa_nil)) (pe_and (pe_f (ok_is_signs (K := K) T) (hr.mono (by decide)) pass0 (pa_cons (pe_ix (ixK K) (pv 0) pe_int (fun _ _ => rfl)) pa_nil)) (pe_one (pe_f (ok_is_integer (K := K) T) (hr.mono (by decide)) pass0 (pa_cons (pe_ix (ixK K) (pv 0) pe_int (fun _ _ => rfl)) (pa_cons pe_int (pa_cons pe_int pa_nil)))))))))) pss_nil) (pss_cons (ps_if (pt_cmpR (opEq K hr.units) (pv 2) (pe_S [112, 97, 115, 115]) (nomark _)) (pss_one (ps_ret (pe_and (pe_cmpR (opEq K hr.units) (pe_callB (cLen K) (by rfl) T.b_len (by decide +kernel) (pa_cons (pv 0) pa_nil)) pe_int (nomark _)) (pe_one (pe_f (ok_is_integer (K := K) T) (hr.mono (by decide)) pass0 (pa_cons (pe_ix (ixK K) (pv 0) pe_int (fun _ _ => rfl)) (pa_cons pe_int (pa_cons pe_int pa_nil)))))))) pss_nil) (pss_cons (ps_if (pt_cmpR (opEq K hr.units) (pv 2) (pe_S [109, 111, 114, 101]) (nomark _)) (pss_one (ps_ret (pe_and (pe_cmpR (opEq K hr.units) (pe_callB (cLen K) (by rfl) T.b_len (by decide +kernel) (pa_cons (pv 0) pa_nil)) pe_int (nomark _)) (pe_and (pe_f (ok_is_integer (K := K) T) (hr.mono (by decide)) pass0 (pa_cons (pe_ix (ixK K) (pv 0) pe_int (fun _ _ => rfl)) (pa_cons pe_int (pa_cons pe_int pa_nil)))) (pe_one (pe_f (ok_is_integer (K := K) T) (hr.mono (by decide)) pass0 (pa_cons (pe_ix (ixK K) (pv 0) pe_int (fun _ _ => rfl)) (pa_cons pe_int (pa_cons (pe_op op_subP (pv 1) pe_int) pa_nil))))))))) pss_nil) (pss_cons (ps_if (pt_cmpR (opEq K hr.units) (pv 2) (pe_S [108, 97, 115, 116]) (nomark _)) (pss_one (ps_ret (pe_and (pe_cmpR (opEq K hr.units) (pe_callB (cLen K) (by rfl) T.b_len (by decide +kernel) (pa_cons (pv 0) pa_nil)) pe_int (nomark _)) (pe_and (pe_f (ok_is_signs (K := K) T) (hr.mono (by decide)) pass0 (pa_cons (pe_ix (ixK K) (pv 0) pe_int (fun _ _ => rfl)) pa_nil)) (pe_one (pe_f (ok_is_integer (K := K) T) (hr.mono (by decide)) pass0 (pa_cons (pe_ix (ixK K) (pv 0) pe_int (fun _ _ => rfl)) (pa_cons pe_int (pa_cons (pe_op op_subP (pv 1) pe_int) pa_nil))))))))) pss_nil) (pss_cons (ps_if (pt_cmpR (opEq K hr.units) (pv 2) (pe_S [103, 111]) (nomark _)) (pss_one (ps_ret (pe_and (pe_cmpR (opEq K hr.units) (pe_callB (cLen K) (by rfl) T.b_len (by decide +kernel) (pa_cons (pv 0) pa_nil)) pe_int (nomark _)) (pe_one (pe_f (ok_is_integer (K := K) T) (hr.mono (by decide)) pass0 (pa_cons (pe_ix (ixK K) (pv 0) pe_int (fun _ _ => rfl)) (pa_cons pe_int (pa_cons (pe_op op_subP (pv 1) pe_int) pa_nil)))))))) pss_nil) (pss_cons (ps_if (pt_cmpR (opEq K hr.units) (pv 2) (pe_S [110, 97, 109, 101]) (nomark _)) (pss_one (ps_ret (pe_and (pe_cmpR (opEq K hr.units) (pe_callB (cLen K) (by rfl) T.b_len (by decide +kernel) (pa_cons (pv 0) pa_nil)) pe_int (nomark _)) (pe_one (pe_f (ok_is_name (K := K) T) (hr.mono (by decide)) pass0 (pa_cons (pe_ix (ixK K) (pv 0) pe_int (fun _ _ => rfl)) pa_nil)))))) pss_nil) (pss_one (ps_ret (pe_and (pe_cmpR (opEq K hr.units) (pv 2) (pe_S [115, 107, 105, 112]) (nomark _)) (pe_one (pe_cmpR (opEq K hr.units) (pe_callB (cLen K) (by rfl) T.b_len (by decide +kernel) (pa_cons (pv 0) pa_nil)) pe_int (nomark _))))))))))))))), ?_⟩
  show (_ : TS) { nx := fun _ H' => Q .non H', rt := Q } [some x, some y, none] H
  obtain ⟨d, m, hx, rfl, hc, hd, q⟩ := h
  have q0 := q H (Same.refl H)
  cases d
  case tuple ds =>
    obtain ⟨a, xs, rfl, hH, hl, al⟩ := hx.tupled
    have ll := al.len
    walk_at "go"
    refine i_isiTup true hx rfl ?_
    walk_at "go"
    refine i_len_tup (.inl (.inl hH)) ?_
    walk_at "go"
    cases ds with
    | nil =>
      have e0 : ((xs.length : Int) = 0) := by have := (show xs.length = 0 from ll); omega
      rw [decide_eq_true e0]
      walk_at "go"
      exact q0
    | cons w r =>
    have e0 : ¬ ((xs.length : Int) = 0) := by simp at ll; omega
    rw [decide_eq_false e0]
    have xl : xs.length = r.length + 1 := by rw [ll]; rfl
    obtain ⟨v0, hv0, a0⟩ := al.at (i := 0) (d := w) rfl
    have hcw : w.canLay0 = true := by
      have h' : (w.canLay0 && PyData.canLayAll0 r) = true := by simpa only [PyData.canLay0, PyData.canLayAll0] using hc
      exact (Bool.and_eq_true_iff.mp h').1
    have hdw : w.depth ≤ 64 := by
      have := depth_mem (List.mem_cons_self (a := w) (l := r))
      have : PyData.depthAll (w :: r) + 1 ≤ 60 := hd
      omega
    have ix : ∀ {H' : Hp} {R : VK} {i : Nat} {v : V}, Same H H' → xs[i]? = some v → R v H' → ixP K (.ref a) (.int (i : Int)) H' R := fun s e k => i_ix_tup (.inl (.inl (s _ _ hH))) (atI_nat e) k
    have eqw : ∀ {l : List Nat} {R : VK}, (∀ c ∈ l, c < 0x110000) → R (.bl (eqS w l)) H → eqP K v0 (S l) H R := fun ls k => i_eqDS a0 hcw hdw ls k
    have q : ∀ H', Same H H' → Q (.bl (ordD m w r)) H' := q
    unfold ordD at q
    clear q0
    have len : ∀ {R : VK}, R (.int ((r.length + 1 : Nat) : Int)) H → rLenP K [.ref a] H R := fun k => i_len_tup (.inl (.inl hH)) (by rw [xl]; exact k)
    walk_at "go"
    refine i_ix_tup (v := v0) (.inl (.inl hH)) (atI_int (by decide) hv0) ?_
    walk_at "go"
    refine eqw (by decide) ?_
    walk_at "go"
    refine i_bool (fun e => ?_) (fun e => ?_)
    · rw [if_pos e] at q
      walk_at "go"
      refine len ?_
      walk_at "go"
      refine i_dec (fun e2 => ?_) (fun e2 => ?_)
      · obtain ⟨p1, p2, rfl⟩ := two_of (r := r) (by omega)
        obtain ⟨v1, hv1, a1⟩ := al.at (i := 1) (d := p1) rfl
        obtain ⟨v2, hv2, a2⟩ := al.at (i := 2) (d := p2) rfl
        have q : ∀ H', Same H H' → Q (.bl (isSgs p1 && isIn p2 1 9)) H' := q
        walk_at "go"
        refine ix (i := 1) (Same.refl H) hv1 ?_
        walk_at "go"
        refine ⟨p1, a1, fun H1 s1 => ?_⟩
        refine ⟨_, rfl, ?_⟩
        cases e1 : isSgs p1 with
        | false =>
          rw [e1] at q
          exact q H1 s1
        | true =>
          rw [e1] at q
          walk_at "go"
          refine ix (i := 2) s1 hv2 ?_
          walk_at "go"
          exact ⟨p2, 1, 9, a2.same s1, rfl, rfl, q H1 s1⟩
      · have e1 : fWait r = false := by
          match r, e2 with
          | [], _ => rfl
          | [n], _ => rfl
          | [_, _], e2 => exact absurd (by simp) e2
          | _ :: _ :: _ :: _, _ => rfl
        rw [e1] at q
        exact q H (Same.refl H)
    rw [if_neg (by rw [e]; decide)] at q
    clear e
    walk_at "go"
    refine eqw (by decide) ?_
    walk_at "go"
    refine i_bool (fun e => ?_) (fun e => ?_)
    · rw [if_pos e] at q
      walk_at "go"
      refine len ?_
      walk_at "go"
      refine i_dec (fun e2 => ?_) (fun e2 => ?_)
      · obtain ⟨p1, p2, p3, rfl⟩ := three_of (r := r) (by omega)
        obtain ⟨v1, hv1, a1⟩ := al.at (i := 1) (d := p1) rfl
        obtain ⟨v2, hv2, a2⟩ := al.at (i := 2) (d := p2) rfl
        obtain ⟨v3, hv3, a3⟩ := al.at (i := 3) (d := p3) rfl
        have q : ∀ H', Same H H' → Q (.bl (isSgs p1 && isSgs p2 && isIn p3 1 9)) H' := q
        walk_at "go"
        refine ix (i := 1) (Same.refl H) hv1 ?_
        walk_at "go"
        refine ⟨p1, a1, fun H1 s1 => ?_⟩
        refine ⟨_, rfl, ?_⟩
        cases e1 : isSgs p1 with
        | false =>
          rw [e1] at q
          exact q H1 s1
        | true =>
          rw [e1] at q
          walk_at "go"
          refine ix (i := 2) s1 hv2 ?_
          walk_at "go"
          refine ⟨p2, a2.same s1, fun H2 s2 => ?_⟩
          have s12 := s1.trans s2
          refine ⟨_, rfl, ?_⟩
          cases e3 : isSgs p2 with
          | false =>
            rw [e3] at q
            exact q H2 s12
          | true =>
            rw [e3] at q
            walk_at "go"
            refine ix (i := 3) s12 hv3 ?_
            walk_at "go"
            exact ⟨p3, 1, 9, a3.same s12, rfl, rfl, q H2 s12⟩
      · have e1 : fCount r = false := by
          match r, e2 with
          | [], _ => rfl
          | [n], _ => rfl
          | [_, _], _ => rfl
          | [_, _, _], e2 => exact absurd (by simp) e2
          | _ :: _ :: _ :: _ :: _, _ => rfl
        rw [e1] at q
        exact q H (Same.refl H)
    rw [if_neg (by rw [e]; decide)] at q
    clear e
    walk_at "go"
    refine eqw (by decide) ?_
    walk_at "go"
    refine i_bool (fun e => ?_) (fun e => ?_)
    · rw [if_pos e] at q
      walk_at "go"
      refine len ?_
      walk_at "go"
      refine i_dec (fun e2 => ?_) (fun e2 => ?_)
      · obtain ⟨p1, rfl⟩ := one_of (r := r) (by omega)
        obtain ⟨v1, hv1, a1⟩ := al.at (i := 1) (d := p1) rfl
        walk_at "go"
        refine ix (i := 1) (Same.refl H) hv1 ?_
        walk_at "go"
        exact ⟨p1, 1, 9, a1, rfl, rfl, q H (Same.refl H)⟩
      · have e1 : fPass r = false := by
          match r, e2 with
          | [], _ => rfl
          | [_], e2 => exact absurd (by simp) e2
          | _ :: _ :: _, _ => rfl
        rw [e1] at q
        exact q H (Same.refl H)
    rw [if_neg (by rw [e]; decide)] at q
    clear e
    walk_at "go"
    refine eqw (by decide) ?_
    walk_at "go"
    refine i_bool (fun e => ?_) (fun e => ?_)
    · rw [if_pos e] at q
      walk_at "go"
      refine len ?_
      walk_at "go"
      refine i_dec (fun e2 => ?_) (fun e2 => ?_)
      · obtain ⟨p1, p2, rfl⟩ := two_of (r := r) (by omega)
        obtain ⟨v1, hv1, a1⟩ := al.at (i := 1) (d := p1) rfl
        obtain ⟨v2, hv2, a2⟩ := al.at (i := 2) (d := p2) rfl
        have q : ∀ H', Same H H' → Q (.bl (isIn p1 1 9 && isIn p2 0 (m - 1))) H' := q
        walk_at "go"
        refine ix (i := 1) (Same.refl H) hv1 ?_
        walk_at "go"
        refine ⟨p1, 1, 9, a1, rfl, rfl, ?_⟩
        refine ⟨_, rfl, ?_⟩
        cases e1 : isIn p1 1 9 with
        | false =>
          rw [e1] at q
          exact q H (Same.refl H)
        | true =>
          rw [e1] at q
          walk_at "go"
          refine ix (i := 2) (Same.refl H) hv2 ?_
          walk_at "go"
          exact ⟨p2, 0, m - 1, a2, rfl, rfl, q H (Same.refl H)⟩
      · have e1 : fMore m r = false := by
          match r, e2 with
          | [], _ => rfl
          | [n], _ => rfl
          | [_, _], e2 => exact absurd (by simp) e2
          | _ :: _ :: _ :: _, _ => rfl
        rw [e1] at q
        exact q H (Same.refl H)
    rw [if_neg (by rw [e]; decide)] at q
    clear e
    walk_at "go"
    refine eqw (by decide) ?_
    walk_at "go"
    refine i_bool (fun e => ?_) (fun e => ?_)
    · rw [if_pos e] at q
      walk_at "go"
      refine len ?_
      walk_at "go"
      refine i_dec (fun e2 => ?_) (fun e2 => ?_)
      · obtain ⟨p1, p2, rfl⟩ := two_of (r := r) (by omega)
        obtain ⟨v1, hv1, a1⟩ := al.at (i := 1) (d := p1) rfl
        obtain ⟨v2, hv2, a2⟩ := al.at (i := 2) (d := p2) rfl
        have q : ∀ H', Same H H' → Q (.bl (isSgs p1 && isIn p2 0 (m - 1))) H' := q
        walk_at "go"
        refine ix (i := 1) (Same.refl H) hv1 ?_
        walk_at "go"
        refine ⟨p1, a1, fun H1 s1 => ?_⟩
        refine ⟨_, rfl, ?_⟩
        cases e1 : isSgs p1 with
        | false =>
          rw [e1] at q
          exact q H1 s1
        | true =>
          rw [e1] at q
          walk_at "go"
          refine ix (i := 2) s1 hv2 ?_
          walk_at "go"
          exact ⟨p2, 0, m - 1, a2.same s1, rfl, rfl, q H1 s1⟩
      · have e1 : fLast m r = false := by
          match r, e2 with
          | [], _ => rfl
          | [n], _ => rfl
          | [_, _], e2 => exact absurd (by simp) e2
          | _ :: _ :: _ :: _, _ => rfl
        rw [e1] at q
        exact q H (Same.refl H)
    rw [if_neg (by rw [e]; decide)] at q
    clear e
    walk_at "go"
    refine eqw (by decide) ?_
    walk_at "go"
    refine i_bool (fun e => ?_) (fun e => ?_)
    · rw [if_pos e] at q
      walk_at "go"
      refine len ?_
      walk_at "go"
      refine i_dec (fun e2 => ?_) (fun e2 => ?_)
      · obtain ⟨p1, rfl⟩ := one_of (r := r) (by omega)
        obtain ⟨v1, hv1, a1⟩ := al.at (i := 1) (d := p1) rfl
        walk_at "go"
        refine ix (i := 1) (Same.refl H) hv1 ?_
        walk_at "go"
        exact ⟨p1, 0, m - 1, a1, rfl, rfl, q H (Same.refl H)⟩
      · have e1 : fGo m r = false := by
          match r, e2 with
          | [], _ => rfl
          | [_], e2 => exact absurd (by simp) e2
          | _ :: _ :: _, _ => rfl
        rw [e1] at q
        exact q H (Same.refl H)
    rw [if_neg (by rw [e]; decide)] at q
    clear e
    walk_at "go"
    refine eqw (by decide) ?_
    walk_at "go"
    refine i_bool (fun e => ?_) (fun e => ?_)
    · rw [if_pos e] at q
      walk_at "go"
      refine len ?_
      walk_at "go"
      refine i_dec (fun e2 => ?_) (fun e2 => ?_)
      · obtain ⟨p1, rfl⟩ := one_of (r := r) (by omega)
        obtain ⟨v1, hv1, a1⟩ := al.at (i := 1) (d := p1) rfl
        walk_at "go"
        refine ix (i := 1) (Same.refl H) hv1 ?_
        walk_at "go"
        exact ⟨p1, a1, q H (Same.refl H)⟩
      · have e1 : fName r = false := by
          match r, e2 with
          | [], _ => rfl
          | [_], e2 => exact absurd (by simp) e2
          | _ :: _ :: _, _ => rfl
        rw [e1] at q
        exact q H (Same.refl H)
    rw [if_neg (by rw [e]; decide)] at q
    clear e
    walk_at "go"
    refine eqw (by decide) ?_
    refine ⟨_, rfl, ?_⟩
    cases e : eqS w cSkip with
    | false =>
      rw [e] at q
      exact q H (Same.refl H)
    | true =>
      rw [e] at q
      walk_at "go"
      refine len ?_
      walk_at "go"
      have e1 : decide (((r.length + 1 : Nat) : Int) = 1) = decide (r.length = 0) := by
        rw [Bool.eq_iff_iff, decide_eq_true_eq, decide_eq_true_eq]; omega
      rw [e1]
      exact q H (Same.refl H)
  all_goals
    walk_at "go"
    refine i_isiTup false hx rfl ?_
    walk_at "go"
    exact q0
end
end K42
namespace K42
open PySem PySem.Spec PyProof.Rows L2 Fg
local macro_rules | `(tactic| walk_at "sq") => `(tactic| first
  | assumption
  | exact .inl (.inl (by assumption))
  | exact .inl (.inl upd_same))
local macro_rules | `(tactic| walk_at "st") => `(tactic| first
  | assumption
  | exact .inl (.inl (by assumption))
  | exact .inl (.inl upd_same))
local macro_rules | `(tactic| walk_at "o") => `(tactic| first
  | omega
  | assumption
  | (simp only [List.length_append, List.length_take, List.length_drop, List.length_cons, List.length_nil, List.length_singleton, List.length_map, List.length_range, Int.toNat_natCast] ; omega))
local macro_rules | `(tactic| walk_at "s") => `(tactic| first
  | (with_reducible refine i_seq ?_)
  | (with_reducible refine i_asg ?_)
  | ((with_reducible refine' i_var ?h1 ?_); (case h1 => rfl))
  | (with_reducible refine i_c ?_)
  | ((with_reducible refine' i_gname' ?h1 ?_); (case h1 => (simp only [List.set_cons_zero, List.set_cons_succ]; rfl)))
  | (with_reducible refine i_op ?_)
  | (with_reducible refine i_ifS ?_)
  | (with_reducible refine i_for ?_)
  | (with_reducible refine i_test ?_)
  | (with_reducible refine i_B ?_)
  | (with_reducible refine i_exbl ?_)
  | (with_reducible refine i_exint ?_)
  | (with_reducible refine i_cb ?_)
  | (with_reducible refine i_nil ?_)
  | (with_reducible refine i_cons ?_)
  | (with_reducible refine i_ret ?_)
  | (with_reducible refine i_sl ?_)
  | (with_reducible refine i_nopart ?_)
  | (with_reducible refine i_part ?_)
  | (with_reducible refine i_add_int ?_)
  | (with_reducible refine i_sub ?_)
  | (with_reducible refine i_lt ?_)
  | ((with_reducible refine' i_mod ?h1 ?_); (case h1 => walk_at "o"))
  | ((with_reducible refine' i_fdiv ?h1 ?_); (case h1 => (refine cdiv_small ?_ ?_ <;> walk_at "o")))
  | ((with_reducible refine' i_sl_to ?h1 ?h2 ?_); (case h1 => walk_at "o"); (case h2 => walk_at "o"))
  | ((with_reducible refine' i_sl_from ?h1 ?h2 ?_); (case h1 => walk_at "o"); (case h2 => walk_at "o"))
  | ((with_reducible refine' i_add_str ?h1 ?_); (case h1 => walk_at "o"))
  | ((with_reducible refine' i_mul_int ?h1 ?_); (case h1 => first | (refine mul_small ?_ ?_ <;> walk_at "o") | (refine mul_smallR ?_ ?_ <;> walk_at "o")))
  | (with_reducible refine i_le ?_)
  | (with_reducible refine i_gt ?_)
  | (with_reducible refine i_ge ?_)
  | (with_reducible refine i_eq_int ?_)
  | (with_reducible refine i_eq_str ?_)
  | (with_reducible refine i_ne_int ?_)
  | (with_reducible refine i_ne_str ?_)
  | (with_reducible refine i_eq_bl ?_)
  | (with_reducible refine i_ne_bl ?_)
  | (with_reducible refine i_in_sg ?_)
  | (with_reducible refine i_notIn_sg ?_)
  | (with_reducible refine i_call ?_)
  | (with_reducible refine i_callS ?_)
  | (with_reducible refine i_sp1 ?_)
  | (with_reducible refine i_sp2 ?_)
  | (with_reducible refine i_sp3 ?_)
  | (with_reducible refine i_sp4 ?_)
  | (with_reducible refine i_sp1' ?_)
  | (with_reducible refine i_sp2' ?_)
  | (with_reducible refine i_sp3' ?_)
  | ((with_reducible refine' i_ix_lst ?h1 ?h2 ?_); (case h1 => walk_at "sq"); (case h2 => first | exact atI_nat rfl | rfl))
  | ((with_reducible refine' i_ix_tup ?h1 ?h2 ?_); (case h1 => walk_at "st"); (case h2 => first | exact atI_nat rfl | rfl))
  | (with_reducible refine i_gsub ?_)
  | (with_reducible refine i_par ?_)
  | (with_reducible refine i_lstRg1 ?_)
  | (with_reducible refine i_app ?_)
  | (with_reducible refine i_par2 ?_)
  | ((with_reducible refine' i_aug ?h1 ?_); (case h1 => rfl))
  | (with_reducible refine i_ipI ?_)
  | ((with_reducible refine' i_gtup2 ?h1 ?_); (case h1 => walk_at "st"))
  | (with_reducible refine i_int_bl ?_)
  | (with_reducible refine i_raise ?_)
  | (with_reducible refine i_mkE ?_)
  | (with_reducible refine i_ex1 ?_)
  | (with_reducible refine i_and ?_)
  | (with_reducible refine i_or ?_)
  | (with_reducible refine i_not ?_)
  | (with_reducible refine i_tt ?_)
  | (with_reducible refine i_ff ?_)
  | (with_reducible refine i_nott ?_)
  | (with_reducible refine i_notf ?_)
  | (with_reducible refine i_andV ?_)
  | (with_reducible refine i_orV ?_)
  | (with_reducible refine i_notV ?_)
  | (with_reducible refine i_ifE ?_)
  | (with_reducible refine i_tup ?_)
  | (with_reducible refine i_lst ?_)
  | (with_reducible refine i_un ?_)
  | (with_reducible refine i_neg ?_)
  | (with_reducible refine i_chain ?_)
  | (with_reducible refine i_next ?_)
  | (with_reducible refine i_retN ?_)
  | (with_reducible refine i_drop ?_)
  | (with_reducible refine i_int_int ?_)
  | (with_reducible refine i_abs ?_)
  | (with_reducible refine i_m1c ?_)
  | (with_reducible refine i_is_non ?_)
  | (with_reducible refine i_is_int ?_)
  | (with_reducible refine i_is_bl ?_)
  | (with_reducible refine i_isn_bl ?_)
  | (with_reducible refine i_is_str ?_)
  | (with_reducible refine i_is_ref ?_)
  | (with_reducible refine i_isn_non ?_)
  | (with_reducible refine i_isn_int ?_)
  | (with_reducible refine i_isn_str ?_)
  | (with_reducible refine i_isn_ref ?_)
  | (with_reducible refine i_len_str ?h1 ?_; (case h1 => walk_at "o"))
  | (with_reducible refine i_callD ?_)
  | (with_reducible refine i_spD2 ?_)
  | (with_reducible refine i_spM1 ?_)
  | (with_reducible refine i_spM2 ?_)
  | (with_reducible refine i_spM3 ?_)
  | (with_reducible refine i_spM4 ?_)
  | (with_reducible refine i_spM3d ?_)
  | (with_reducible refine i_tfld ?_)
  | (with_reducible refine i_sfld ?_)
  | (with_reducible refine i_meth ?_)
  | (with_reducible refine i_make ?_)
  | (with_reducible refine i_spl ?_)
  | (with_reducible refine i_mkE2 ?_)
  | (with_reducible refine i_ex2 ?_)
  | (with_reducible refine i_dget ?_)
  | (with_reducible refine i_tru ?_)
  | (with_reducible refine i_dput ?_)
  | (with_reducible refine i_dnotin ?_)
  | (with_reducible refine i_din ?_)
  | (with_reducible refine i_isi_int_int ?_) | (with_reducible refine i_isi_int_bool ?_) | (with_reducible refine i_isi_int_str ?_) | (with_reducible refine i_isi_int_tuple ?_) | (with_reducible refine i_isi_int_list ?_)
  | (with_reducible refine i_isi_bl_int ?_) | (with_reducible refine i_isi_bl_bool ?_) | (with_reducible refine i_isi_bl_str ?_) | (with_reducible refine i_isi_bl_tuple ?_) | (with_reducible refine i_isi_bl_list ?_)
  | (with_reducible refine i_isi_str_int ?_) | (with_reducible refine i_isi_str_bool ?_) | (with_reducible refine i_isi_str_str ?_) | (with_reducible refine i_isi_str_tuple ?_) | (with_reducible refine i_isi_str_list ?_)
  | (with_reducible refine i_isi_non_int ?_) | (with_reducible refine i_isi_non_bool ?_) | (with_reducible refine i_isi_non_str ?_) | (with_reducible refine i_isi_non_tuple ?_) | (with_reducible refine i_isi_non_list ?_))
local macro_rules | `(tactic| walk_at "go") => `(tactic| (repeat' (walk_at "s")))
local macro_rules | `(tactic| walk_at "n") => `(tactic| simp only [wipe, List.map_cons, List.map_nil, List.set_cons_zero, List.set_cons_succ])
/-! ### Orders -/
def badOAt (m : Int) (ds : List PyData) : Option Nat := ds.findIdx? fun d => !isOrd m d
def badO : PyData → Option Int
  | .tuple ds => if 1 ≤ ds.length ∧ ds.length ≤ 20 then (badOAt ds.length ds).map fun n : Nat => (n : Int) else some (-1)
  | _ => some (-1)
theorem badO_some {m : Int} {ds : List PyData} {n : Nat} {d : PyData} (h : ds[n]? = some d) (hc : isOrd m d = false) (hb : ∀ k < n, ∀ c, ds[k]? = some c → isOrd m c = true) : badOAt m ds = some n := by
  unfold badOAt
  rw [List.findIdx?_eq_some_iff_getElem]
  obtain ⟨hp, e⟩ := List.getElem?_eq_some_iff.mp h
  refine ⟨hp, by simp [e, hc], fun j hj => ?_⟩
  have := hb j hj (ds[j]) (List.getElem?_eq_getElem (by omega))
  simp [this]
theorem badO_none {m : Int} {ds : List PyData} (hb : ∀ k < ds.length, ∀ c, ds[k]? = some c → isOrd m c = true) : badOAt m ds = none := by
  unfold badOAt
  rw [List.findIdx?_eq_none_iff]
  intro x hx
  obtain ⟨k, hk, e⟩ := List.mem_iff_getElem.mp hx
  have := hb k hk x (by rw [List.getElem?_eq_getElem hk, e])
  simp [this]
mutual
theorem deep_lay : ∀ d : PyData, (deepD d).canLay0 = d.canLay0
  | .list ds => by
    show (PyData.tuple (deepD.deepDs ds)).canLay0 = _
    simp only [PyData.canLay0]
    exact deep_lays ds
  | .tuple ds => by
    show (PyData.tuple (deepD.deepDs ds)).canLay0 = _
    simp only [PyData.canLay0]
    exact deep_lays ds
  | .none => rfl
  | .bool _ => rfl
  | .int _ => rfl
  | .str _ => rfl
  | .dict _ => rfl
theorem deep_lays : ∀ ds : List PyData, PyData.canLayAll0 (deepD.deepDs ds) = PyData.canLayAll0 ds
  | [] => rfl
  | d :: r => by
    show PyData.canLayAll0 (deepD d :: deepD.deepDs r) = _
    simp only [PyData.canLayAll0, deep_lay d, deep_lays r]
end
mutual
theorem deep_dep : ∀ d : PyData, (deepD d).depth = d.depth
  | .none => rfl
  | .bool _ => rfl
  | .int _ => rfl
  | .str _ => rfl
  | .list ds => congrArg (· + 1) (deep_deps ds)
  | .tuple ds => congrArg (· + 1) (deep_deps ds)
  | .dict _ => rfl
theorem deep_deps : ∀ ds : List PyData, PyData.depthAll (deepD.deepDs ds) = PyData.depthAll ds
  | [] => rfl
  | d :: r => by
    show max (deepD d).depth (PyData.depthAll (deepD.deepDs r)) = max d.depth (PyData.depthAll r)
    rw [deep_dep d, deep_deps r]
end
theorem lay_mem : ∀ {ds : List PyData} {d : PyData}, PyData.canLayAll0 ds = true → d ∈ ds → d.canLay0 = true
  | e :: r, d, h, hm => by
    have h' : e.canLay0 = true ∧ PyData.canLayAll0 r = true := by simpa only [PyData.canLayAll0, Bool.and_eq_true] using h
    rcases List.mem_cons.mp hm with rfl | hm
    · exact h'.1
    · exact lay_mem h'.2 hm
def But (p : Addr) (H H' : Hp) : Prop := ∀ b o, b ≠ p → H b = some o → H' b = some o
/-- the fields of an instance -/
def OF (t : Addr) : List (Str × V) := putF "lines" (.ref t) []
theorem OF_at (t : Addr) : (OF t).lookup ("lines" : Str) = some (.ref t) := by
  unfold OF
  rw [lookup_putF, if_pos rfl]
section
variable {P : Program} {w : World} {K : PySem.W.Frag} {mg : Str → Option Value} {base : Heap} {C_GlimError C_BadOrder C_BadReader C_NoLine C_Orders : Addr}
def p_init (C CB : Addr) : P2 := fun x y H Q E => ∃ A p dx d, x = .ref p ∧ Same A H ∧ A p = none ∧ H p = some (.ins C dx []) ∧ At A y d ∧ d.depth < 6 ∧ d.canLay0 = true ∧
  (match badO (deepD d) with
    | some n => Rz E H CB "number" (.int n)
    | none => ∀ A' H' t ds, deepD d = .tuple ds → Same A A' → Same A' H' → But p H H' → (∀ b, A b = none → A' b ≠ none → H b = none) → A' p = none → H' p = some (.ins C dx (OF t)) → At A' (.ref t) (.tuple ds) → Q .non H')
theorem ok_Orders___init__ (T : Txt K mg C_GlimError C_BadOrder C_BadReader C_NoLine C_Orders) : MkOK P w K mg base (L2.CX P w) 7 "Orders" C_Orders ["self", "lines"] [] (sp2  (p_init C_Orders C_BadOrder)) := by
  refine MkOK.mkX (k := 6) T.m_Orders___init__ sc_Orders___init__ len2 fun f cdv A outer s H vs Q E hr h => ?_
  obtain ⟨x, y, rfl, h⟩ := h
  refine ⟨_, (pss_cons (ps_set (i := 2) sc_Orders___init__.nd rfl (Or.inl rfl) (pe_fd (ok_deep (K := K) T) (hr.mono (by decide)) pass0 (pa_cons (pv 1) pa_nil))) (pss_cons (ps_if (pw_or (pt_not (pt_val (pe_callB (cIsi K) (by rfl) T.b_isinstance (by decide +kernel) (pa_cons (pv 2) (pa_cons (pe_bltn (v := .ty "tuple") (by rfl) T.b_tuple (by decide +kernel) rfl) pa_nil))))) (pw_or1 (pt_not (pt_chain op_leP op_leP pe_int (pe_callB (cLen K) (by rfl) T.b_len (by decide +kernel) (pa_cons (pv 2) pa_nil)) (pe_gI 20 T.g_MOST_LINES))))).pt (pss_one (ps_raiseP rfl (takes_of rfl rfl rfl rfl) (pmk_E (k := 0) (okx_BadOrder T) (hr.mono (by decide)) (pa_cons (pe_un un_neg pe_int) pa_nil)))) pss_nil) (pss_cons (ps_for (passes_of rfl) rfl (piEnumT K rfl T.b_enumerate (pa_cons (pv 2) pa_nil)) (pgTup (n := 2) K rfl (pgs_cons (pg_name (i := 3) sc_Orders___init__.nd rfl (Or.inl rfl)) (pgs_cons (pg_name (i := 4) sc_Orders___init__.nd rfl (Or.inl rfl)) pgs_nil))) (pss_one (ps_if (pt_not (pt_val (pe_f (ok_is_order (K := K) T) (hr.mono (by decide)) pass0 (pa_cons (pv 4) (pa_cons (pe_callB (cLen K) (by rfl) T.b_len (by decide +kernel) (pa_cons (pv 2) pa_nil)) pa_nil))))) (pss_one (ps_raiseP rfl (takes_of rfl rfl rfl rfl) (pmk_E (k := 0) (okx_BadOrder T) (hr.mono (by decide)) (pa_cons (pv 3) pa_nil)))) pss_nil))) (pss_one (psFld K (pv 0) (pv 2)))))), ?_⟩
  show (_ : TS) { nx := fun _ H' => Q .non H', rt := Q } [some x, some y, none, none, none] H
  obtain ⟨A0, p, dx, d, rfl, sa, np, ob, hd, dp, lay, q⟩ := h
  walk_at "go"
  refine ⟨A0, d, 0, sa, hd, rfl, by decide, by decide, dp, fun A1 H1 v x1 hv => ?_⟩
  have lay' : (deepD d).canLay0 = true := by rw [deep_lay]; exact lay
  have dp' : (deepD d).depth < 6 := by rw [deep_dep]; exact dp
  have hv1 := hv.same x1.ag
  have np1 : A1 p = none := x1.free np (by rw [ob]; simp)
  have ob1 := x1.gg _ _ ob
  generalize deepD d = D at *
  have other : isTupD D = false → badO D = some (-1) := fun h => by
    cases D <;> first
      | rfl
      | cases h
  walk_at "go"
  cases e : isTupD D with
  | false =>
    rw [other e] at q
    refine i_isiTup false hv1 e ?_
    walk_at "go"
    intro dd nd
    exact Rz.at (Rz.mono q x1.gg) nd
  | true =>
    obtain ⟨ds, rfl⟩ : ∃ ds, D = .tuple ds := by
      cases D <;> first
        | exact ⟨_, rfl⟩
        | cases e
    obtain ⟨a, xs, rfl, hA, hl, al⟩ := hv.tupled
    have hH := x1.ag _ _ hA
    have ll := al.len
    refine i_isiTup true hv1 rfl ?_
    change (match (if 1 ≤ ds.length ∧ ds.length ≤ 20 then (badOAt ds.length ds).map fun n : Nat => (n : Int) else some (-1)) with
      | some n => Rz E H C_BadOrder "number" (.int n)
      | none => ∀ A' H' t ds', PyData.tuple ds = .tuple ds' → Same A0 A' → Same A' H' → But p H H' → (∀ b, A0 b = none → A' b ≠ none → H b = none) → A' p = none → H' p = some (.ins C_Orders dx (OF t)) → At A' (.ref t) (.tuple ds') → Q .non H') at q
    walk_at "go"
    refine i_len_tup (.inl (.inl hH)) ?_
    walk_at "go"
    have bad : ¬ (1 ≤ ds.length ∧ ds.length ≤ 20) → Rz E H C_BadOrder "number" (.int (-1)) := fun h => by
      rw [if_neg h] at q; exact q
    refine i_dec (fun e1 => ?_) (fun e1 => ?_)
    rotate_left
    · walk_at "go"
      intro dd nd
      exact Rz.at (Rz.mono (bad (by omega)) x1.gg) nd
    walk_at "go"
    refine i_decN (fun e2 => ?_) (fun e2 => ?_)
    · walk_at "go"
      intro dd nd
      exact Rz.at (Rz.mono (bad (by omega)) x1.gg) nd
    rw [if_pos (by omega)] at q
    walk_at "go"
    dsimp only
    refine f_enumT (ta := tCons (tVar 2) tNil) (i1 := 3) (i2 := 4) (a := a) (xs := xs) (fun R k => by walk_at "go"; exact k) (.inl (.inl hH)) (fun i σ H' => ∃ v1 v2, σ = [some (.ref p), some y, some (.ref a), v1, v2] ∧ Same H1 H' ∧ ∀ k < i, ∀ c, ds[k]? = some c → isOrd ds.length c = true) ⟨none, none, rfl, Same.refl _, fun k hk => absurd hk (Nat.not_lt_zero _)⟩ (fun i σ' H' _ p => ?_) ?_ ?_
    · obtain ⟨_, _, _, s1, _⟩ := p
      rw [s1 _ _ hH, hH]
    · rintro i x σ H' Tt hi ⟨v1, v2, rfl, s1, hb⟩ nT
      show (_ : TS) _ [some (.ref p), some y, some (.ref a), some (.int (i : Int)), some x] _
      obtain ⟨c, hc, ac⟩ := al.get hi
      have s2 := s1.trans (same_upd (o := .tup [.int (i : Int), x]) nT)
      have cm := List.mem_of_getElem? hc
      have dc := depth_mem cm
      have d1 : PyData.depthAll ds + 1 < 6 := dp'
      have lc := lay_mem (by simpa only [PyData.canLay0] using lay') cm
      walk_at "go"
      refine i_len_tup (.inl (.inl (s2 _ _ hH))) ?_
      rw [ll]
      walk_at "go"
      refine ⟨c, ds.length, (ac.same x1.ag).same s2, rfl, lc, by omega, fun H2 s3 => ?_⟩
      cases ew : isOrd ds.length c with
      | true =>
        walk_at "go"
        refine ⟨_, _, rfl, s2.trans s3, fun k hk c' hc' => ?_⟩
        rcases Nat.lt_or_ge k i with h | h
        · exact hb k h c' hc'
        · have : k = i := by omega
          subst this
          rw [hc] at hc'
          cases hc'
          exact ew
      | false =>
        rw [badO_some hc ew hb] at q
        have q : Rz E H C_BadOrder "number" (.int (i : Int)) := q
        walk_at "go"
        intro dd nd
        exact Rz.at (q.mono (x1.gg.trans (s2.trans s3))) nd
    · rintro σ H' ⟨v1, v2, rfl, s1, hb⟩
      rw [badO_none (ds := ds) (fun k hk => hb k (by omega))] at q
      have q : ∀ A' H' t ds', PyData.tuple ds = .tuple ds' → Same A0 A' → Same A' H' → But p H H' → (∀ b, A0 b = none → A' b ≠ none → H b = none) → A' p = none → H' p = some (.ins C_Orders dx (OF t)) → At A' (.ref t) (.tuple ds') → Q .non H' := q
      have s2 := x1.gg.trans s1
      walk_at "go"
      refine i_put (s1 _ _ ob1) T.cl_Orders T.na_Orders_lines (by show 0 < 1000; decide) ?_
      refine q A1 _ a ds rfl x1.aa (fun b o eb => ?_) (fun b o nb eb => ?_) x1.nw np1 upd_same hv
      · rw [upd_ne (ne_of_none eb np1)]; exact s1 _ _ (x1.ag _ _ eb)
      · rw [upd_ne nb]; exact s2 b o eb
def p_len (C : Addr) : P1 := fun x H Q _ => ∃ p dx t xs, x = .ref p ∧ H p = some (.ins C dx (OF t)) ∧ H t = some (.tup xs) ∧ Q (.int (xs.length : Int)) H
theorem ok_Orders___len__ (T : Txt K mg C_GlimError C_BadOrder C_BadReader C_NoLine C_Orders) : DOK P w K mg base CX0 1 C_Orders "__len__" ["self"] (sp1  (p_len C_Orders)) := by
  refine DOK.mk (k := 0) T.m_Orders___len__ sc_Orders___len__ len1 fun f cdv A outer s H vs Q E hr h => ?_
  obtain ⟨x, rfl, h⟩ := h
  refine ⟨_, (pss_one (ps_ret (pe_callB (cLen K) (by rfl) T.b_len (by decide +kernel) (pa_cons (peFld K (pv 0)) pa_nil)))), ?_⟩
  show (_ : TS) { nx := fun _ H' => Q .non H', rt := Q } [some x] H
  obtain ⟨p, dx, t, xs, rfl, hp, ht, q⟩ := h
  walk_at "go"
  refine i_fld hp T.cl_Orders T.na_Orders_lines (OF_at t) ?_
  walk_at "go"
  exact i_len_tup (.inl (.inl ht)) q
theorem ok_Orders___iter__ (T : Txt K mg C_GlimError C_BadOrder C_BadReader C_NoLine C_Orders) : (IOK P w K mg base CX0 1 C_Orders  "lines") := by
  refine IOK.mk (k := 0) T.m_Orders___iter__ sc_Orders___iter__ fun f cdv A outer s H vs Q E hr h => ?_
  obtain ⟨x, rfl, h⟩ := h
  refine ⟨_, (pss_one (ps_ret (pe_callB (Fg.cIterT K) (by rfl) T.b_iter (by decide +kernel) (pa_cons (peFld K (pv 0)) pa_nil)))), ?_⟩
  show (_ : TS) { nx := fun _ H' => Q .non H', rt := Q } [some x] H
  obtain ⟨a, dx, fs, t, zs, rfl, ha, hl, hq, q⟩ := h
  walk_at "go"
  refine i_fld ha T.cl_Orders T.na_Orders_lines hl ?_
  walk_at "go"
  exact ⟨t, zs, rfl, hq, fun it n1 n2 => q it n1 n2⟩
def p_item (C CN : Addr) : P2 := fun x y H Q E => ∃ p dx t xs d, x = .ref p ∧ H p = some (.ins C dx (OF t)) ∧ H t = some (.tup xs) ∧ At H y d ∧
  (if isIn d 0 ((xs.length : Int) - 1) = true then ∀ i v, d = .int i → 0 ≤ i → xs[i.toNat]? = some v → Q v H else Rz E H CN "number" y)
theorem isIn_is {d : PyData} {lo hi : Int} (h : isIn d lo hi = true) : ∃ i, d = .int i ∧ lo ≤ i ∧ i ≤ hi := by
  cases d with
  | int i =>
    rw [isIn_int, Bool.and_eq_true, decide_eq_true_eq, decide_eq_true_eq] at h
    exact ⟨i, rfl, h⟩
  | _ => cases h
theorem ok_Orders___getitem__ (T : Txt K mg C_GlimError C_BadOrder C_BadReader C_NoLine C_Orders) : DOK P w K mg base (L2.CX P w) 3 C_Orders "__getitem__" ["self", "number"] (sp2  (p_item C_Orders C_NoLine)) := by
  refine DOK.mkX (k := 2) T.m_Orders___getitem__ sc_Orders___getitem__ len2 fun f cdv A outer s H vs Q E hr h => ?_
  obtain ⟨x, y, rfl, h⟩ := h
  refine ⟨_, (pss_cons (ps_if (pt_not (pt_val (pe_f (ok_is_integer (K := K) T) (hr.mono (by decide)) pass0 (pa_cons (pv 1) (pa_cons pe_int (pa_cons (pe_op op_subP (pe_callB (cLen K) (by rfl) T.b_len (by decide +kernel) (pa_cons (peFld K (pv 0)) pa_nil)) pe_int) pa_nil)))))) (pss_one (ps_raiseP rfl (takes_of rfl rfl rfl rfl) (pmk_E (k := 0) (okx_NoLine T) (hr.mono (by decide)) (pa_cons (pv 1) pa_nil)))) pss_nil) (pss_one (ps_ret (pe_ix (ixK K) (peFld K (pv 0)) (pv 1) (fun _ _ => rfl))))), ?_⟩
  show (_ : TS) { nx := fun _ H' => Q .non H', rt := Q } [some x, some y] H
  obtain ⟨p, dx, t, xs, d, rfl, hp, ht, hy, q⟩ := h
  have fl : ∀ {R : V → Prop}, R (.ref t) → ∃ a' C dx fs v, V.ref p = .ref a' ∧ H a' = some (.ins C dx fs) ∧ Cls K C ∧ NoAttr K C "lines" ∧ fs.lookup ("lines" : Str) = some v ∧ R v := fun k => i_fld hp T.cl_Orders T.na_Orders_lines (OF_at t) k
  walk_at "go"
  refine fl ?_
  walk_at "go"
  refine i_len_tup (.inl (.inl ht)) ?_
  walk_at "go"
  refine ⟨d, 0, (xs.length : Int) - 1, hy, rfl, rfl, ?_⟩
  refine ⟨_, rfl, ?_⟩
  cases e : isIn d 0 ((xs.length : Int) - 1) with
  | false =>
    rw [e, if_neg (by decide)] at q
    walk_at "go"
    intro dd nd
    exact Rz.at q nd
  | true =>
    rw [e, if_pos rfl] at q
    obtain ⟨i, rfl, h0, h1⟩ := isIn_is e
    obtain rfl := hy.intd
    have hi : i.toNat < xs.length := by omega
    walk_at "go"
    refine fl ?_
    walk_at "go"
    exact i_ix_tup (.inl (.inl ht)) (atI_int h0 (List.getElem?_eq_getElem hi)) (q i _ rfl h0 (List.getElem?_eq_getElem hi))
def p_eq (C : Addr) : P2 := fun x y H Q _ => ∃ p dx t ds, x = .ref p ∧ H p = some (.ins C dx (OF t)) ∧ At H (.ref t) (.tuple ds) ∧ (PyData.tuple ds).canLay0 = true ∧ (PyData.tuple ds).depth ≤ 60 ∧
  ((∃ p2 dx2 t2 ds2, y = .ref p2 ∧ H p2 = some (.ins C dx2 (OF t2)) ∧ At H (.ref t2) (.tuple ds2) ∧ (PyData.tuple ds2).canLay0 = true ∧ (PyData.tuple ds2).depth ≤ 60 ∧ Q (.bl (PyData.eqv (.tuple ds) (.tuple ds2))) H) ∨
    ∃ b ys, y = .ref b ∧ H b = some (.tup ys) ∧ Q (.bl false) H)
theorem ok_Orders___eq__ (T : Txt K mg C_GlimError C_BadOrder C_BadReader C_NoLine C_Orders) : DOK P w K mg base CX0 1 C_Orders "__eq__" ["self", "other"] (sp2  (p_eq C_Orders)) := by
  refine DOK.mk (k := 0) T.m_Orders___eq__ sc_Orders___eq__ len2 fun f cdv A outer s H vs Q E hr h => ?_
  obtain ⟨x, y, rfl, h⟩ := h
  refine ⟨_, (pss_one (ps_ret (pe_and (pe_callB (cIsi K) (by rfl) T.b_isinstance (by decide +kernel) (pa_cons (pv 1) (pa_cons (pe_gR _ T.c_Orders) pa_nil))) (pe_one (pe_cmpR (opEq K hr.units) (peFld K (pv 0)) (peFld K (pv 1)) (nomark _)))))), ?_⟩
  show (_ : TS) { nx := fun _ H' => Q .non H', rt := Q } [some x, some y] H
  obtain ⟨p, dx, t, ds, rfl, hp, at1, l1, d1, h⟩ := h
  walk_at "go"
  rcases h with ⟨p2, dx2, t2, ds2, rfl, hp2, at2, l2, d2, q⟩ | ⟨b, ys, rfl, hb, q⟩
  · refine i_isiO hp2 T.ic_Orders (.own _) T.k_Orders_Orders ?_
    walk_at "go"
    refine i_fld hp T.cl_Orders T.na_Orders_lines (OF_at t) ?_
    walk_at "go"
    refine i_fld hp2 T.cl_Orders T.na_Orders_lines (OF_at t2) ?_
    have s1 : SeqAt.shaped (.tuple ds) = true := by unfold SeqAt.shaped; rw [l1, decide_eq_true (by omega)]; rfl
    have s2 : SeqAt.shaped (.tuple ds2) = true := by unfold SeqAt.shaped; rw [l2, decide_eq_true (by omega)]; rfl
    exact i_eq_data (at1.dp K _ _ (PyData.hasDict_of_canLay _ l1)) (at2.dp K _ _ (PyData.hasDict_of_canLay _ l2)) s1 s2 rfl q
  · refine ⟨_, _, _, _, false, rfl, .own _, .base (.tup hb), T.k_tuple_Orders, ?_⟩
    walk_at "go"
    exact q
end
end K42
namespace K42
open PySem PySem.Spec PyProof.Rows L2 Fg
local macro_rules | `(tactic| walk_at "sq") => `(tactic| first
  | assumption
  | exact .inl (.inl (by assumption))
  | exact .inl (.inl upd_same))
local macro_rules | `(tactic| walk_at "st") => `(tactic| first
  | assumption
  | exact .inl (.inl (by assumption))
  | exact .inl (.inl upd_same))
local macro_rules | `(tactic| walk_at "o") => `(tactic| first
  | omega
  | assumption
  | (simp only [List.length_append, List.length_take, List.length_drop, List.length_cons, List.length_nil, List.length_singleton, List.length_map, List.length_range, Int.toNat_natCast] ; omega))
local macro_rules | `(tactic| walk_at "s") => `(tactic| first
  | (with_reducible refine i_seq ?_)
  | (with_reducible refine i_asg ?_)
  | ((with_reducible refine' i_var ?h1 ?_); (case h1 => rfl))
  | (with_reducible refine i_c ?_)
  | ((with_reducible refine' i_gname' ?h1 ?_); (case h1 => (simp only [List.set_cons_zero, List.set_cons_succ]; rfl)))
  | (with_reducible refine i_op ?_)
  | (with_reducible refine i_ifS ?_)
  | (with_reducible refine i_for ?_)
  | (with_reducible refine i_test ?_)
  | (with_reducible refine i_B ?_)
  | (with_reducible refine i_exbl ?_)
  | (with_reducible refine i_exint ?_)
  | (with_reducible refine i_cb ?_)
  | (with_reducible refine i_nil ?_)
  | (with_reducible refine i_cons ?_)
  | (with_reducible refine i_ret ?_)
  | (with_reducible refine i_sl ?_)
  | (with_reducible refine i_nopart ?_)
  | (with_reducible refine i_part ?_)
  | (with_reducible refine i_add_int ?_)
  | (with_reducible refine i_sub ?_)
  | (with_reducible refine i_lt ?_)
  | ((with_reducible refine' i_mod ?h1 ?_); (case h1 => walk_at "o"))
  | ((with_reducible refine' i_fdiv ?h1 ?_); (case h1 => (refine cdiv_small ?_ ?_ <;> walk_at "o")))
  | ((with_reducible refine' i_sl_to ?h1 ?h2 ?_); (case h1 => walk_at "o"); (case h2 => walk_at "o"))
  | ((with_reducible refine' i_sl_from ?h1 ?h2 ?_); (case h1 => walk_at "o"); (case h2 => walk_at "o"))
  | ((with_reducible refine' i_add_str ?h1 ?_); (case h1 => walk_at "o"))
  | ((with_reducible refine' i_mul_int ?h1 ?_); (case h1 => first | (refine mul_small ?_ ?_ <;> walk_at "o") | (refine mul_smallR ?_ ?_ <;> walk_at "o")))
  | (with_reducible refine i_le ?_)
  | (with_reducible refine i_gt ?_)
  | (with_reducible refine i_ge ?_)
  | (with_reducible refine i_eq_int ?_)
  | (with_reducible refine i_eq_str ?_)
  | (with_reducible refine i_ne_int ?_)
  | (with_reducible refine i_ne_str ?_)
  | (with_reducible refine i_eq_bl ?_)
  | (with_reducible refine i_ne_bl ?_)
  | (with_reducible refine i_in_sg ?_)
  | (with_reducible refine i_notIn_sg ?_)
  | (with_reducible refine i_call ?_)
  | (with_reducible refine i_callS ?_)
  | (with_reducible refine i_sp1 ?_)
  | (with_reducible refine i_sp2 ?_)
  | (with_reducible refine i_sp3 ?_)
  | (with_reducible refine i_sp4 ?_)
  | (with_reducible refine i_sp1' ?_)
  | (with_reducible refine i_sp2' ?_)
  | (with_reducible refine i_sp3' ?_)
  | ((with_reducible refine' i_ix_lst ?h1 ?h2 ?_); (case h1 => walk_at "sq"); (case h2 => first | exact atI_nat rfl | rfl))
  | ((with_reducible refine' i_ix_tup ?h1 ?h2 ?_); (case h1 => walk_at "st"); (case h2 => first | exact atI_nat rfl | rfl))
  | (with_reducible refine i_gsub ?_)
  | (with_reducible refine i_par ?_)
  | (with_reducible refine i_lstRg1 ?_)
  | (with_reducible refine i_app ?_)
  | (with_reducible refine i_par2 ?_)
  | ((with_reducible refine' i_aug ?h1 ?_); (case h1 => rfl))
  | (with_reducible refine i_ipI ?_)
  | ((with_reducible refine' i_gtup2 ?h1 ?_); (case h1 => walk_at "st"))
  | (with_reducible refine i_int_bl ?_)
  | (with_reducible refine i_raise ?_)
  | (with_reducible refine i_mkE ?_)
  | (with_reducible refine i_ex1 ?_)
  | (with_reducible refine i_and ?_)
  | (with_reducible refine i_or ?_)
  | (with_reducible refine i_not ?_)
  | (with_reducible refine i_tt ?_)
  | (with_reducible refine i_ff ?_)
  | (with_reducible refine i_nott ?_)
  | (with_reducible refine i_notf ?_)
  | (with_reducible refine i_andV ?_)
  | (with_reducible refine i_orV ?_)
  | (with_reducible refine i_notV ?_)
  | (with_reducible refine i_ifE ?_)
  | (with_reducible refine i_tup ?_)
  | (with_reducible refine i_lst ?_)
  | (with_reducible refine i_un ?_)
  | (with_reducible refine i_neg ?_)
  | (with_reducible refine i_chain ?_)
  | (with_reducible refine i_next ?_)
  | (with_reducible refine i_retN ?_)
  | (with_reducible refine i_drop ?_)
  | (with_reducible refine i_int_int ?_)
  | (with_reducible refine i_abs ?_)
  | (with_reducible refine i_m1c ?_)
  | (with_reducible refine i_is_non ?_)
  | (with_reducible refine i_is_int ?_)
  | (with_reducible refine i_is_bl ?_)
  | (with_reducible refine i_isn_bl ?_)
  | (with_reducible refine i_is_str ?_)
  | (with_reducible refine i_is_ref ?_)
  | (with_reducible refine i_isn_non ?_)
  | (with_reducible refine i_isn_int ?_)
  | (with_reducible refine i_isn_str ?_)
  | (with_reducible refine i_isn_ref ?_)
  | (with_reducible refine i_len_str ?h1 ?_; (case h1 => walk_at "o"))
  | (with_reducible refine i_callD ?_)
  | (with_reducible refine i_spD2 ?_)
  | (with_reducible refine i_spM1 ?_)
  | (with_reducible refine i_spM2 ?_)
  | (with_reducible refine i_spM3 ?_)
  | (with_reducible refine i_spM4 ?_)
  | (with_reducible refine i_spM3d ?_)
  | (with_reducible refine i_tfld ?_)
  | (with_reducible refine i_sfld ?_)
  | (with_reducible refine i_meth ?_)
  | (with_reducible refine i_make ?_)
  | (with_reducible refine i_spl ?_)
  | (with_reducible refine i_mkE2 ?_)
  | (with_reducible refine i_ex2 ?_)
  | (with_reducible refine i_dget ?_)
  | (with_reducible refine i_tru ?_)
  | (with_reducible refine i_dput ?_)
  | (with_reducible refine i_dnotin ?_)
  | (with_reducible refine i_din ?_)
  | (with_reducible refine i_isi_int_int ?_) | (with_reducible refine i_isi_int_bool ?_) | (with_reducible refine i_isi_int_str ?_) | (with_reducible refine i_isi_int_tuple ?_) | (with_reducible refine i_isi_int_list ?_)
  | (with_reducible refine i_isi_bl_int ?_) | (with_reducible refine i_isi_bl_bool ?_) | (with_reducible refine i_isi_bl_str ?_) | (with_reducible refine i_isi_bl_tuple ?_) | (with_reducible refine i_isi_bl_list ?_)
  | (with_reducible refine i_isi_str_int ?_) | (with_reducible refine i_isi_str_bool ?_) | (with_reducible refine i_isi_str_str ?_) | (with_reducible refine i_isi_str_tuple ?_) | (with_reducible refine i_isi_str_list ?_)
  | (with_reducible refine i_isi_non_int ?_) | (with_reducible refine i_isi_non_bool ?_) | (with_reducible refine i_isi_non_str ?_) | (with_reducible refine i_isi_non_tuple ?_) | (with_reducible refine i_isi_non_list ?_))
local macro_rules | `(tactic| walk_at "go") => `(tactic| (repeat' (walk_at "s")))
local macro_rules | `(tactic| walk_at "n") => `(tactic| simp only [wipe, List.map_cons, List.map_nil, List.set_cons_zero, List.set_cons_succ])
/-! ### the law's own judge -/
def isI : PyData → Bool
  | .int _ => true
  | _ => false
theorem eqv_empty (l : List Nat) : PyData.eqv (.list (l.map fun c => dS [c])) (.list []) = decide (l = []) := by
  cases l with
  | nil => rfl
  | cons c r =>
    rw [decide_eq_false (by simp)]
    rfl
theorem lay_signs {l : List Nat} (h : ∀ c ∈ l, c < 0x110000) : PyData.canLayAll0 (l.map fun c => dS [c]) = true := by
  induction l with
  | nil => rfl
  | cons c r ih =>
    have h1 : (dS [c]).canLay0 = true := by
      simp only [PyData.canLay0]
      exact strOk_small fun x hx => by rw [List.mem_singleton.mp hx]; exact h c (List.mem_cons_self ..)
    simp only [List.map_cons, PyData.canLayAll0, h1, Bool.true_and]
    exact ih fun x hx => h x (List.mem_cons_of_mem _ hx)
theorem dp_signs {K : PySem.W.Frag} {H : Hp} (l : List Nat) : DpAll K H (l.map fun c => S [c]) (l.map fun c => dS [c]) := by
  induction l with
  | nil => exact .nil
  | cons c r ih => exact .cons (.str _) ih
theorem deps_signs (l : List Nat) : PyData.depthAll (l.map fun c => dS [c]) = 0 := by
  induction l with
  | nil => rfl
  | cons c r ih =>
    show max 0 (PyData.depthAll (r.map fun c => dS [c])) = 0
    rw [ih]; rfl
/-- what stands behind the word -/
def formsT : List (List Nat × V) := [(cWait, S [115, 116]), (cCount, S [115, 115, 116]), (cPass, S [116]), (cMore, S [116, 108]), (cLast, S [115, 108]), (cGo, S [108]), (cName, S [110]), (cSkip, S [])]
def formL (l : List Nat) : Option (List Nat) :=
  if l = cWait then some [115, 116] else if l = cCount then some [115, 115, 116] else if l = cPass then some [116] else if l = cMore then some [116, 108] else
  if l = cLast then some [115, 108] else if l = cGo then some [108] else if l = cName then some [110] else if l = cSkip then some [] else none
def formD : PyData → Option (List Nat)
  | .str x => formL x.cps.toList
  | _ => none
def optS : Option (List Nat) → V
  | none => .non
  | some l => S l
theorem look_form (l : List Nat) : (lookT formsT l).getD .non = optS (formL l) := by
  have e : lookT formsT l = if l = cSkip then some (S []) else if l = cName then some (S [110]) else if l = cGo then some (S [108]) else if l = cLast then some (S [115, 108]) else if l = cMore then some (S [116, 108]) else
      if l = cPass then some (S [116]) else if l = cCount then some (S [115, 115, 116]) else if l = cWait then some (S [115, 116]) else none := rfl
  rw [e]
  unfold formL
  by_cases h1 : l = cWait
  · subst h1; rfl
  by_cases h2 : l = cCount
  · subst h2; rfl
  by_cases h3 : l = cPass
  · subst h3; rfl
  by_cases h4 : l = cMore
  · subst h4; rfl
  by_cases h5 : l = cLast
  · subst h5; rfl
  by_cases h6 : l = cGo
  · subst h6; rfl
  by_cases h7 : l = cName
  · subst h7; rfl
  by_cases h8 : l = cSkip
  · subst h8; rfl
  rw [if_neg h1, if_neg h2, if_neg h3, if_neg h4, if_neg h5, if_neg h6, if_neg h7, if_neg h8, if_neg h8, if_neg h7, if_neg h6, if_neg h5, if_neg h4, if_neg h3, if_neg h2, if_neg h1]
  rfl
section
variable {P : Program} {w : World} {K : PySem.W.Frag} {mg : Str → Option Value} {base : Heap} {C_GlimError C_BadOrder C_BadReader C_NoLine C_Orders : Addr}
def p_L_is_int : P1 := fun x H Q _ => ∃ d, At H x d ∧ Q (.bl (isI d)) H
theorem ok_L_is_int (T : Txt K mg C_GlimError C_BadOrder C_BadReader C_NoLine C_Orders) : OK P w K mg base CX0 1 "_law_is_int" ["_law_thing"] (sp1  p_L_is_int) := by
  refine OK.mk (k := 0) T.d_L_is_int sc_L_is_int len1 fun f cdv A outer s H vs Q E hr h => ?_
  obtain ⟨x, rfl, h⟩ := h
  refine ⟨_, (pss_one (ps_ret (pe_and (pe_callB (cIsi K) (by rfl) T.b_isinstance (by decide +kernel) (pa_cons (pv 0) (pa_cons (pe_bltn (v := .ty "int") (by rfl) T.b_int (by decide +kernel) rfl) pa_nil))) (pe_one (pe_not (pe_callB (cIsi K) (by rfl) T.b_isinstance (by decide +kernel) (pa_cons (pv 0) (pa_cons (pe_bltn (v := .ty "bool") (by rfl) T.b_bool (by decide +kernel) rfl) pa_nil)))))))), ?_⟩
  show (_ : TS) { nx := fun _ H' => Q .non H', rt := Q } [some x] H
  obtain ⟨d, hx, q⟩ := h
  walk_at "go"
  cases d
  case int i =>
    refine i_isiInt true hx rfl ?_
    walk_at "go"
    refine i_isiBool false hx rfl ?_
    walk_at "go"
    exact q
  case bool b =>
    refine i_isiInt true hx rfl ?_
    walk_at "go"
    refine i_isiBool true hx rfl ?_
    walk_at "go"
    exact q
  all_goals
    refine i_isiInt false hx rfl ?_
    walk_at "go"
    exact q
def p_L_is_name : P1 := fun x H Q _ => ∃ d, At H x d ∧ d.canLay0 = true ∧ ∀ H', Same H H' → Q (.bl (isNm d)) H'
theorem ok_L_is_name (T : Txt K mg C_GlimError C_BadOrder C_BadReader C_NoLine C_Orders) : OK P w K mg base CX0 1 "_law_is_name" ["_law_thing"] (sp1  p_L_is_name) := by
  refine OK.mk (k := 0) T.d_L_is_name sc_L_is_name len1 fun f cdv A outer s H vs Q E hr h => ?_
  obtain ⟨x, rfl, h⟩ := h
  refine ⟨_, (pss_cons (ps_if (pw_or (pt_not (pt_val (pe_callB (cIsi K) (by rfl) T.b_isinstance (by decide +kernel) (pa_cons (pv 0) (pa_cons (pe_bltn (v := .ty "str") (by rfl) T.b_str (by decide +kernel) rfl) pa_nil))))) (pw_or1 (pt_not (pt_chain op_leP op_leP pe_int (pe_callB (cLen K) (by rfl) T.b_len (by decide +kernel) (pa_cons (pv 0) pa_nil)) pe_int)))).pt (pss_one (ps_ret pe_bl)) pss_nil) (pss_one (ps_ret (pe_cmpR (opEq K hr.units) (pe_lc (own := [("_law_sign", 1)]) (g := gName 1) (by rfl) sc_L_is_name.nd (piAny K (pv 0)) (blkOk_by (own := [("_law_sign", 1)]) (N := ["_law_thing", "_law_sign"]) (sc := (defScope s_L_is_name)) (by decide +kernel)) (fun _ _ _ _ _ => (pg_name (i := 1) sc_L_is_name.nd rfl (Or.inl rfl))) (fun _ _ _ _ _ => (pts_one (pt_cmpR (opNotIn K) (pv 1) (pe_S [97, 98, 99, 100, 101, 102, 103, 104, 105, 106, 107, 108, 109, 110, 111, 112, 113, 114, 115, 116, 117, 118, 119, 120, 121, 122, 48, 49, 50, 51, 52, 53, 54, 55, 56, 57]) (by with_unfolding_all rfl)))) (fun _ _ _ _ _ => (pv 1))) (pe_lst pa_nil) (nomark _))))), ?_⟩
  show (_ : TS) { nx := fun _ H' => Q .non H', rt := Q } [some x, none] H
  obtain ⟨d, hx, lay, q⟩ := h
  have q0 := q H (Same.refl H)
  cases d
  case str z =>
    obtain ⟨l, rfl, rfl, hl⟩ := hx.strl
    replace q : ∀ H', Same H H' → Q (.bl (isMkL l && decide (l ≠ []))) H' := q
    have small := small_strOk (by simpa only [PyData.canLay0] using lay)
    unfold isMkL at q
    have bad : ¬ (1 ≤ l.length ∧ l.length ≤ 8) → Q (.bl false) H := fun h => by
      have := q H (Same.refl H)
      by_cases h8 : l.length ≤ 8
      · have e : l = [] := List.length_eq_zero_iff.mp (by omega)
        rw [decide_eq_false (show ¬ l ≠ [] from fun z => z e), Bool.and_false] at this
        exact this
      · rw [decide_eq_false h8, Bool.false_and, Bool.false_and] at this
        exact this
    walk_at "go"
    refine i_dec (fun e1 => ?_) (fun e1 => ?_)
    rotate_left
    · walk_at "go"
      exact bad (by omega)
    walk_at "go"
    refine i_decN (fun e2 => ?_) (fun e2 => ?_)
    · walk_at "go"
      exact bad (by omega)
    rw [decide_eq_true (show l.length ≤ 8 by omega), Bool.true_and, decide_eq_true (show l ≠ [] from fun z => by rw [z] at e1; simp at e1), Bool.and_true] at q
    walk_at "go"
    refine c_strF (z := l) (fun c => !decide (c ∈ MK)) (fun R k => by walk_at "go"; exact k) (by omega) (fun _ => rfl) (fun c H2 hc s2 QB k => ?_) (fun c H2 hc s2 QV k => ?_) (fun Dl H2 n2 s2 d2 => ?_)
    · show (_ : TT) [some (S l), some (S [c])] H2 QB
      walk_at "go"
      exact k H2 (Same.refl H2)
    · show (_ : TE) [some (S l), some (S [c])] H2 QV
      walk_at "go"
      exact k H2 (Same.refl H2)
    · walk_at "go"
      refine i_new (by show 0 ≤ 100000; omega) fun p np => ?_
      have hsub : ∀ c ∈ l.filter fun c => !decide (c ∈ MK), c < 0x110000 := fun c hc => small c (List.mem_filter.mp hc).1
      have e3 : (l.filter fun c => !decide (c ∈ MK)) = [] ↔ (l.all fun c => decide (c ∈ MK)) = true := by
        rw [List.filter_eq_nil_iff, List.all_eq_true]
        constructor
        · intro h c hc
          exact decide_eq_true (Decidable.byContradiction fun n => h c hc (by rw [decide_eq_false n]; rfl))
        · intro h c hc hn
          rw [decide_eq_true (of_decide_eq_true (h c hc))] at hn
          cases hn
      have sh : SeqAt.shaped (.list ((l.filter fun c => !decide (c ∈ MK)).map fun c => dS [c])) = true := by
        unfold SeqAt.shaped
        rw [Bool.and_eq_true]
        refine ⟨by simp only [PyData.canLay0]; exact lay_signs hsub, decide_eq_true ?_⟩
        show PyData.depthAll _ + 1 ≤ 64
        rw [deps_signs]; decide
      have ep : Dl ≠ p := ne_of_none d2 np
      refine i_eq_data (.lst (.inl (.inl ((upd_ne ep).trans d2))) (dp_signs _)) (.lst (.inl (.inl upd_same)) .nil) sh (by decide) (eqv_empty _) ?_
      have e4 : decide ((l.filter fun c => !decide (c ∈ MK)) = []) = (l.all fun c => decide (c ∈ MK)) := by
        rw [Bool.eq_iff_iff, decide_eq_true_eq]; exact e3
      rw [e4]
      exact q _ (s2.trans (same_upd np))
  all_goals
    walk_at "go"
    refine i_isiStr false hx rfl ?_
    walk_at "go"
    exact q0
def p_L_is_signs : P1 := fun x H Q _ => ∃ d, At H x d ∧ ∀ H', Same H H' → Q (.bl (isSgs d)) H'
theorem ok_L_is_signs (T : Txt K mg C_GlimError C_BadOrder C_BadReader C_NoLine C_Orders) : OK P w K mg base CX0 1 "_law_is_signs" ["_law_thing"] (sp1  p_L_is_signs) := by
  refine OK.mk (k := 0) T.d_L_is_signs sc_L_is_signs len1 fun f cdv A outer s H vs Q E hr h => ?_
  obtain ⟨x, rfl, h⟩ := h
  refine ⟨_, (pss_cons (ps_if (pw_or (pt_not (pt_val (pe_callB (cIsi K) (by rfl) T.b_isinstance (by decide +kernel) (pa_cons (pv 0) (pa_cons (pe_bltn (v := .ty "str") (by rfl) T.b_str (by decide +kernel) rfl) pa_nil))))) (pw_or1 (pt_cmpR (opEq K hr.units) (pv 0) (pe_S []) (nomark _)))).pt (pss_one (ps_ret pe_bl)) pss_nil) (pss_one (ps_ret (pe_cmpR (opEq K hr.units) (pv 0) (peJoin K (pe_S []) (pe_lc (own := [("_law_sign", 1)]) (g := gName 1) (by rfl) sc_L_is_signs.nd (piAny K (pe_S [46, 103, 114, 119])) (blkOk_by (own := [("_law_sign", 1)]) (N := ["_law_thing", "_law_sign"]) (sc := (defScope s_L_is_signs)) (by decide +kernel)) (fun _ _ _ _ _ => (pg_name (i := 1) sc_L_is_signs.nd rfl (Or.inl rfl))) (fun _ _ _ _ _ => (pts_one (pt_cmpR (opIn K) (pv 1) (pv 0) (by with_unfolding_all rfl)))) (fun _ _ _ _ _ => (pv 1)))) (nomark _))))), ?_⟩
  show (_ : TS) { nx := fun _ H' => Q .non H', rt := Q } [some x, none] H
  obtain ⟨d, hx, q⟩ := h
  have q0 := q H (Same.refl H)
  cases d
  case str z =>
    obtain ⟨l, rfl, rfl, hl⟩ := hx.strl
    replace q : ∀ H', Same H H' → Q (.bl (sgsL l)) H' := q
    unfold sgsL at q
    walk_at "go"
    refine i_dec (fun e => ?_) (fun e => ?_)
    · walk_at "go"
      have := q H (Same.refl H)
      rw [decide_eq_false (show ¬ l ≠ [] from fun z => z e), Bool.false_and] at this
      exact this
    rw [decide_eq_true (show l ≠ [] from e)] at q
    walk_at "go"
    refine c_strF (z := SG) (fun c => decide (c ∈ l)) (fun R k => by walk_at "go"; exact k) (by decide) (fun _ => rfl) (fun c H2 hc s2 QB k => ?_) (fun c H2 hc s2 QV k => ?_) (fun Dl H2 n2 s2 d2 => ?_)
    · show (_ : TT) [some (S l), some (S [c])] H2 QB
      walk_at "go"
      exact k H2 (Same.refl H2)
    · show (_ : TE) [some (S l), some (S [c])] H2 QV
      walk_at "go"
      exact k H2 (Same.refl H2)
    · walk_at "go"
      refine i_join1 (.inl (.inl d2)) ?_ ?_
      · have := List.length_filter_le (fun c => decide (c ∈ l)) SG
        have : SG.length = 4 := rfl
        omega
      · walk_at "go"
        exact q H2 s2
  all_goals
    walk_at "go"
    refine i_isiStr false hx rfl ?_
    walk_at "go"
    exact q0
def p_L_form : P1 := fun x H Q _ => ∃ d, At H x d ∧ ∀ H', Same H H' → Q (optS (formD d)) H'
theorem ok_L_form (T : Txt K mg C_GlimError C_BadOrder C_BadReader C_NoLine C_Orders) : OK P w K mg base CX0 1 "_law_form" ["_law_word"] (sp1  p_L_form) := by
  refine OK.mk (k := 0) T.d_L_form sc_L_form len1 fun f cdv A outer s H vs Q E hr h => ?_
  obtain ⟨x, rfl, h⟩ := h
  refine ⟨_, (pss_cons (ps_set (i := 1) sc_L_form.nd rfl (Or.inl rfl) (pe_disp (pps_cons (pe_S [119, 97, 105, 116]) (pe_S [115, 116]) (pps_cons (pe_S [99, 111, 117, 110, 116]) (pe_S [115, 115, 116]) (pps_cons (pe_S [112, 97, 115, 115]) (pe_S [116]) (pps_cons (pe_S [109, 111, 114, 101]) (pe_S [116, 108]) (pps_cons (pe_S [108, 97, 115, 116]) (pe_S [115, 108]) (pps_cons (pe_S [103, 111]) (pe_S [108]) (pps_cons (pe_S [110, 97, 109, 101]) (pe_S [110]) (pps_cons (pe_S [115, 107, 105, 112]) (pe_S []) pps_nil)))))))) (by rfl) (by rfl) (fun z => by cases z) (by decide))) (pss_cons (ps_if (pt_not (pt_val (pe_callB (cIsi K) (by rfl) T.b_isinstance (by decide +kernel) (pa_cons (pv 0) (pa_cons (pe_bltn (v := .ty "str") (by rfl) T.b_str (by decide +kernel) rfl) pa_nil))))) (pss_one (ps_ret pe_non)) pss_nil) (pss_one (ps_ret (pe_dget1 (hu_of hr) (pv 1) (pv 0) ⟨by rfl, by rfl, by rfl, by rfl⟩))))), ?_⟩
  show (_ : TS) { nx := fun _ H' => Q .non H', rt := Q } [some x, none] H
  obtain ⟨d, hx, q⟩ := h
  walk_at "go"
  refine i_dispT formsT (by decide) fun p o np td => ?_
  have sp := same_upd (o := o) np
  have hx' := hx.same sp
  walk_at "go"
  cases d
  case str z =>
    obtain ⟨l, rfl, rfl, hl⟩ := hx.strl
    walk_at "go"
    refine i_dget1 ?_
    walk_at "go"
    refine ⟨p, rfl, td_isD td, ?_⟩
    walk_at "go"
    refine td_get1 td ?_
    rw [look_form]
    exact q _ sp
  all_goals
    refine i_isiStr false hx' rfl ?_
    walk_at "go"
    exact q _ sp
end
end K42
namespace K42
open PySem PySem.Spec PyProof.Rows L2 Fg
local macro_rules | `(tactic| walk_at "sq") => `(tactic| first
  | assumption
  | exact .inl (.inl (by assumption))
  | exact .inl (.inl upd_same))
local macro_rules | `(tactic| walk_at "st") => `(tactic| first
  | assumption
  | exact .inl (.inl (by assumption))
  | exact .inl (.inl upd_same))
local macro_rules | `(tactic| walk_at "o") => `(tactic| first
  | omega
  | assumption
  | (simp only [List.length_append, List.length_take, List.length_drop, List.length_cons, List.length_nil, List.length_singleton, List.length_map, List.length_range, Int.toNat_natCast] ; omega))
local macro_rules | `(tactic| walk_at "s") => `(tactic| first
  | (with_reducible refine i_seq ?_)
  | (with_reducible refine i_asg ?_)
  | ((with_reducible refine' i_var ?h1 ?_); (case h1 => rfl))
  | (with_reducible refine i_c ?_)
  | ((with_reducible refine' i_gname' ?h1 ?_); (case h1 => (simp only [List.set_cons_zero, List.set_cons_succ]; rfl)))
  | (with_reducible refine i_op ?_)
  | (with_reducible refine i_ifS ?_)
  | (with_reducible refine i_for ?_)
  | (with_reducible refine i_test ?_)
  | (with_reducible refine i_B ?_)
  | (with_reducible refine i_exbl ?_)
  | (with_reducible refine i_exint ?_)
  | (with_reducible refine i_cb ?_)
  | (with_reducible refine i_nil ?_)
  | (with_reducible refine i_cons ?_)
  | (with_reducible refine i_ret ?_)
  | (with_reducible refine i_sl ?_)
  | (with_reducible refine i_nopart ?_)
  | (with_reducible refine i_part ?_)
  | (with_reducible refine i_add_int ?_)
  | (with_reducible refine i_sub ?_)
  | (with_reducible refine i_lt ?_)
  | ((with_reducible refine' i_mod ?h1 ?_); (case h1 => walk_at "o"))
  | ((with_reducible refine' i_fdiv ?h1 ?_); (case h1 => (refine cdiv_small ?_ ?_ <;> walk_at "o")))
  | ((with_reducible refine' i_sl_to ?h1 ?h2 ?_); (case h1 => walk_at "o"); (case h2 => walk_at "o"))
  | ((with_reducible refine' i_sl_from ?h1 ?h2 ?_); (case h1 => walk_at "o"); (case h2 => walk_at "o"))
  | ((with_reducible refine' i_add_str ?h1 ?_); (case h1 => walk_at "o"))
  | ((with_reducible refine' i_mul_int ?h1 ?_); (case h1 => first | (refine mul_small ?_ ?_ <;> walk_at "o") | (refine mul_smallR ?_ ?_ <;> walk_at "o")))
  | (with_reducible refine i_le ?_)
  | (with_reducible refine i_gt ?_)
  | (with_reducible refine i_ge ?_)
  | (with_reducible refine i_eq_int ?_)
  | (with_reducible refine i_eq_str ?_)
  | (with_reducible refine i_ne_int ?_)
  | (with_reducible refine i_ne_str ?_)
  | (with_reducible refine i_eq_bl ?_)
  | (with_reducible refine i_ne_bl ?_)
  | (with_reducible refine i_in_sg ?_)
  | (with_reducible refine i_notIn_sg ?_)
  | (with_reducible refine i_call ?_)
  | (with_reducible refine i_callS ?_)
  | (with_reducible refine i_sp1 ?_)
  | (with_reducible refine i_sp2 ?_)
  | (with_reducible refine i_sp3 ?_)
  | (with_reducible refine i_sp4 ?_)
  | (with_reducible refine i_sp1' ?_)
  | (with_reducible refine i_sp2' ?_)
  | (with_reducible refine i_sp3' ?_)
  | ((with_reducible refine' i_ix_lst ?h1 ?h2 ?_); (case h1 => walk_at "sq"); (case h2 => first | exact atI_nat rfl | rfl))
  | ((with_reducible refine' i_ix_tup ?h1 ?h2 ?_); (case h1 => walk_at "st"); (case h2 => first | exact atI_nat rfl | rfl))
  | (with_reducible refine i_gsub ?_)
  | (with_reducible refine i_par ?_)
  | (with_reducible refine i_lstRg1 ?_)
  | (with_reducible refine i_app ?_)
  | (with_reducible refine i_par2 ?_)
  | ((with_reducible refine' i_aug ?h1 ?_); (case h1 => rfl))
  | (with_reducible refine i_ipI ?_)
  | ((with_reducible refine' i_gtup2 ?h1 ?_); (case h1 => walk_at "st"))
  | (with_reducible refine i_int_bl ?_)
  | (with_reducible refine i_raise ?_)
  | (with_reducible refine i_mkE ?_)
  | (with_reducible refine i_ex1 ?_)
  | (with_reducible refine i_and ?_)
  | (with_reducible refine i_or ?_)
  | (with_reducible refine i_not ?_)
  | (with_reducible refine i_tt ?_)
  | (with_reducible refine i_ff ?_)
  | (with_reducible refine i_nott ?_)
  | (with_reducible refine i_notf ?_)
  | (with_reducible refine i_andV ?_)
  | (with_reducible refine i_orV ?_)
  | (with_reducible refine i_notV ?_)
  | (with_reducible refine i_ifE ?_)
  | (with_reducible refine i_tup ?_)
  | (with_reducible refine i_lst ?_)
  | (with_reducible refine i_un ?_)
  | (with_reducible refine i_neg ?_)
  | (with_reducible refine i_chain ?_)
  | (with_reducible refine i_next ?_)
  | (with_reducible refine i_retN ?_)
  | (with_reducible refine i_drop ?_)
  | (with_reducible refine i_int_int ?_)
  | (with_reducible refine i_abs ?_)
  | (with_reducible refine i_m1c ?_)
  | (with_reducible refine i_is_non ?_)
  | (with_reducible refine i_is_int ?_)
  | (with_reducible refine i_is_bl ?_)
  | (with_reducible refine i_isn_bl ?_)
  | (with_reducible refine i_is_str ?_)
  | (with_reducible refine i_is_ref ?_)
  | (with_reducible refine i_isn_non ?_)
  | (with_reducible refine i_isn_int ?_)
  | (with_reducible refine i_isn_str ?_)
  | (with_reducible refine i_isn_ref ?_)
  | (with_reducible refine i_len_str ?h1 ?_; (case h1 => walk_at "o"))
  | (with_reducible refine i_callD ?_)
  | (with_reducible refine i_spD2 ?_)
  | (with_reducible refine i_spM1 ?_)
  | (with_reducible refine i_spM2 ?_)
  | (with_reducible refine i_spM3 ?_)
  | (with_reducible refine i_spM4 ?_)
  | (with_reducible refine i_spM3d ?_)
  | (with_reducible refine i_tfld ?_)
  | (with_reducible refine i_sfld ?_)
  | (with_reducible refine i_meth ?_)
  | (with_reducible refine i_make ?_)
  | (with_reducible refine i_spl ?_)
  | (with_reducible refine i_mkE2 ?_)
  | (with_reducible refine i_ex2 ?_)
  | (with_reducible refine i_dget ?_)
  | (with_reducible refine i_tru ?_)
  | (with_reducible refine i_dput ?_)
  | (with_reducible refine i_dnotin ?_)
  | (with_reducible refine i_din ?_)
  | (with_reducible refine i_isi_int_int ?_) | (with_reducible refine i_isi_int_bool ?_) | (with_reducible refine i_isi_int_str ?_) | (with_reducible refine i_isi_int_tuple ?_) | (with_reducible refine i_isi_int_list ?_)
  | (with_reducible refine i_isi_bl_int ?_) | (with_reducible refine i_isi_bl_bool ?_) | (with_reducible refine i_isi_bl_str ?_) | (with_reducible refine i_isi_bl_tuple ?_) | (with_reducible refine i_isi_bl_list ?_)
  | (with_reducible refine i_isi_str_int ?_) | (with_reducible refine i_isi_str_bool ?_) | (with_reducible refine i_isi_str_str ?_) | (with_reducible refine i_isi_str_tuple ?_) | (with_reducible refine i_isi_str_list ?_)
  | (with_reducible refine i_isi_non_int ?_) | (with_reducible refine i_isi_non_bool ?_) | (with_reducible refine i_isi_non_str ?_) | (with_reducible refine i_isi_non_tuple ?_) | (with_reducible refine i_isi_non_list ?_))
local macro_rules | `(tactic| walk_at "go") => `(tactic| (repeat' (walk_at "s")))
local macro_rules | `(tactic| walk_at "n") => `(tactic| simp only [wipe, List.map_cons, List.map_nil, List.set_cons_zero, List.set_cons_succ])
def thD (m : Int) (c : Nat) (d : PyData) : Bool := if c = 116 then isIn d 1 9 else if c = 108 then isIn d 0 (m - 1) else if c = 110 then isNm d else isSgs d
def allT (m : Int) : List Nat → List PyData → Bool
  | [], [] => true
  | c :: f, d :: r => thD m c d && allT m f r
  | _, _ => false
theorem isIn_deep (d : PyData) (lo hi : Int) : isIn (deepD d) lo hi = isIn d lo hi := by cases d <;> rfl
theorem isNm_deep (d : PyData) : isNm (deepD d) = isNm d := by cases d <;> rfl
theorem isSgs_deep (d : PyData) : isSgs (deepD d) = isSgs d := by cases d <;> rfl
theorem eqS_deep (d : PyData) (l : List Nat) : eqS (deepD d) l = eqS d l := by cases d <;> rfl
theorem deeps_len (r : List PyData) : (deepD.deepDs r).length = r.length := by rw [deepDs_map, List.length_map]
theorem allT_len {m : Int} : ∀ {f : List Nat} {r : List PyData}, allT m f r = true → r.length = f.length
  | [], [], _ => rfl
  | c :: f, d :: r, h => by
    have h' : (thD m c d && allT m f r) = true := h
    rw [Bool.and_eq_true] at h'
    rw [List.length_cons, List.length_cons, allT_len h'.2]
  | [], _ :: _, h => by cases h
  | _ :: _, [], h => by cases h
theorem allT_no {m : Int} {f : List Nat} {r : List PyData} (h : r.length ≠ f.length) : allT m f r = false := by
  cases e : allT m f r with
  | false => rfl
  | true => exact absurd (allT_len e) h
theorem allT_iff {m : Int} : ∀ {f : List Nat} {r : List PyData}, r.length = f.length → (allT m f r = true ↔ ∀ (i : Nat) (c : Nat) (d : PyData), f[i]? = some c → r[i]? = some d → thD m c d = true)
  | [], [], _ => ⟨fun _ i c d h => by simp at h, fun _ => rfl⟩
  | c :: f, d :: r, h => by
    have ih := allT_iff (m := m) (f := f) (r := r) (by simpa using h)
    have e : allT m (c :: f) (d :: r) = (thD m c d && allT m f r) := rfl
    rw [e, Bool.and_eq_true, ih]
    constructor
    · rintro ⟨h1, h2⟩ i c' d' hc hd
      cases i with
      | zero => cases hc; cases hd; exact h1
      | succ i => exact h2 i c' d' hc hd
    · intro h2
      exact ⟨h2 0 c d rfl rfl, fun i c' d' hc hd => h2 (i + 1) c' d' hc hd⟩
  | [], _ :: _, h => by simp at h
  | _ :: _, [], h => by simp at h
theorem eqS_form {w : PyData} {l : List Nat} (h : eqS w l = true) : formD w = formL l := by
  rw [eqS_yes h]; rfl
theorem ord_form (m : Int) (w : PyData) (r : List PyData) : ordD m (deepD w) (deepD.deepDs r) = (match formD w with | none => false | some f => allT m f r) := by
  unfold ordD
  simp only [eqS_deep]
  cases e1 : eqS w cWait with
  | true =>
    rw [if_pos rfl, eqS_form e1]
    show fWait (deepD.deepDs r) = allT m [115, 116] r
    match r with
    | [] => rfl
    | [a] => show false = (thD m 115 a && false); rw [Bool.and_false]
    | [a, b] =>
      show (isSgs (deepD a) && isIn (deepD b) 1 9) = (isSgs a && (isIn b 1 9 && true))
      rw [isSgs_deep, isIn_deep, Bool.and_true]
    | a :: b :: c :: r => show false = (thD m 115 a && (thD m 116 b && false)); simp
  | false =>
  rw [if_neg (by decide)]
  cases e2 : eqS w cCount with
  | true =>
    rw [if_pos rfl, eqS_form e2]
    show fCount (deepD.deepDs r) = allT m [115, 115, 116] r
    match r with
    | [] => rfl
    | [a] => show false = (thD m 115 a && false); simp
    | [a, b] => show false = (thD m 115 a && (thD m 115 b && false)); simp
    | [a, b, c] =>
      show (isSgs (deepD a) && isSgs (deepD b) && isIn (deepD c) 1 9) = (isSgs a && (isSgs b && (isIn c 1 9 && true)))
      rw [isSgs_deep, isSgs_deep, isIn_deep, Bool.and_true, Bool.and_assoc]
    | a :: b :: c :: d :: r => show false = (thD m 115 a && (thD m 115 b && (thD m 116 c && false))); simp
  | false =>
  rw [if_neg (by decide)]
  cases e3 : eqS w cPass with
  | true =>
    rw [if_pos rfl, eqS_form e3]
    show fPass (deepD.deepDs r) = allT m [116] r
    match r with
    | [] => rfl
    | [a] =>
      show isIn (deepD a) 1 9 = (isIn a 1 9 && true)
      rw [isIn_deep, Bool.and_true]
    | a :: b :: r => show false = (thD m 116 a && false); simp
  | false =>
  rw [if_neg (by decide)]
  cases e4 : eqS w cMore with
  | true =>
    rw [if_pos rfl, eqS_form e4]
    show fMore m (deepD.deepDs r) = allT m [116, 108] r
    match r with
    | [] => rfl
    | [a] => show false = (thD m 116 a && false); simp
    | [a, b] =>
      show (isIn (deepD a) 1 9 && isIn (deepD b) 0 (m - 1)) = (isIn a 1 9 && (isIn b 0 (m - 1) && true))
      rw [isIn_deep, isIn_deep, Bool.and_true]
    | a :: b :: c :: r => show false = (thD m 116 a && (thD m 108 b && false)); simp
  | false =>
  rw [if_neg (by decide)]
  cases e5 : eqS w cLast with
  | true =>
    rw [if_pos rfl, eqS_form e5]
    show fLast m (deepD.deepDs r) = allT m [115, 108] r
    match r with
    | [] => rfl
    | [a] => show false = (thD m 115 a && false); simp
    | [a, b] =>
      show (isSgs (deepD a) && isIn (deepD b) 0 (m - 1)) = (isSgs a && (isIn b 0 (m - 1) && true))
      rw [isSgs_deep, isIn_deep, Bool.and_true]
    | a :: b :: c :: r => show false = (thD m 115 a && (thD m 108 b && false)); simp
  | false =>
  rw [if_neg (by decide)]
  cases e6 : eqS w cGo with
  | true =>
    rw [if_pos rfl, eqS_form e6]
    show fGo m (deepD.deepDs r) = allT m [108] r
    match r with
    | [] => rfl
    | [a] =>
      show isIn (deepD a) 0 (m - 1) = (isIn a 0 (m - 1) && true)
      rw [isIn_deep, Bool.and_true]
    | a :: b :: r => show false = (thD m 108 a && false); simp
  | false =>
  rw [if_neg (by decide)]
  cases e7 : eqS w cName with
  | true =>
    rw [if_pos rfl, eqS_form e7]
    show fName (deepD.deepDs r) = allT m [110] r
    match r with
    | [] => rfl
    | [a] =>
      show isNm (deepD a) = (isNm a && true)
      rw [isNm_deep, Bool.and_true]
    | a :: b :: r => show false = (thD m 110 a && false); simp
  | false =>
  rw [if_neg (by decide)]
  cases e8 : eqS w cSkip with
  | true =>
    rw [eqS_form e8, deeps_len]
    show (true && decide (r.length = 0)) = allT m [] r
    cases r with
    | nil => rfl
    | cons a r => rfl
  | false =>
  rw [Bool.false_and]
  cases w with
  | str x =>
    have f : formL x.cps.toList = none := by
      unfold formL
      rw [if_neg (of_decide_eq_false e1), if_neg (of_decide_eq_false e2), if_neg (of_decide_eq_false e3), if_neg (of_decide_eq_false e4), if_neg (of_decide_eq_false e5), if_neg (of_decide_eq_false e6), if_neg (of_decide_eq_false e7), if_neg (of_decide_eq_false e8)]
    show false = (match formL x.cps.toList with | none => false | some f => allT m f r)
    rw [f]
  | _ => rfl
theorem form_small {l f : List Nat} (h : formL l = some f) : f.length ≤ 3 ∧ ∀ c ∈ f, c = 116 ∨ c = 108 ∨ c = 110 ∨ c = 115 := by
  unfold formL at h
  split at h
  · cases h; exact ⟨by decide, by decide⟩
  split at h
  · cases h; exact ⟨by decide, by decide⟩
  split at h
  · cases h; exact ⟨by decide, by decide⟩
  split at h
  · cases h; exact ⟨by decide, by decide⟩
  split at h
  · cases h; exact ⟨by decide, by decide⟩
  split at h
  · cases h; exact ⟨by decide, by decide⟩
  split at h
  · cases h; exact ⟨by decide, by decide⟩
  split at h
  · cases h; exact ⟨by decide, by decide⟩
  · cases h
theorem formD_small {d : PyData} {f : List Nat} (h : formD d = some f) : f.length ≤ 3 ∧ ∀ c ∈ f, c = 116 ∨ c = 108 ∨ c = 110 ∨ c = 115 := by
  cases d with
  | str x => exact form_small h
  | _ => cases h
def optV : Option Int → V
  | none => .non
  | some k => .int k
theorem eqv_ints (ns : List Int) : PyData.eqv (.list (ns.map .int)) (.list []) = decide (ns = []) := by
  cases ns with
  | nil => rfl
  | cons c r =>
    rw [decide_eq_false (by simp)]
    rfl
theorem lay_ints : ∀ ns : List Int, PyData.canLayAll0 (ns.map .int) = true ∧ PyData.depthAll (ns.map .int) = 0
  | [] => ⟨rfl, rfl⟩
  | n :: r => by
    obtain ⟨a, b⟩ := lay_ints r
    refine ⟨?_, ?_⟩
    · simp only [List.map_cons, PyData.canLayAll0, PyData.canLay0, a, Bool.true_and]
    · show max 0 (PyData.depthAll (r.map .int)) = 0
      rw [b]; rfl
def seqD : PyData → Option (List PyData)
  | .list ds => some ds
  | .tuple ds => some ds
  | _ => none
theorem seq_at {H : Hp} {v : V} {d : PyData} {ds : List PyData} (h : At H v d) (e : seqD d = some ds) : ∃ a xs, v = .ref a ∧ xs.length ≤ 10000 ∧ AtAll H xs ds ∧ (H a = some (.lst xs) ∨ H a = some (.tup xs)) := by
  cases d with
  | list es =>
    cases e
    obtain ⟨a, xs, rfl, hA, hl, al⟩ := h.listed
    exact ⟨a, xs, rfl, hl, al, .inl hA⟩
  | tuple es =>
    cases e
    obtain ⟨a, xs, rfl, hA, hl, al⟩ := h.tupled
    exact ⟨a, xs, rfl, hl, al, .inr hA⟩
  | _ => cases e
section
variable {K : PySem.W.Frag} {H : Hp} {Q : VK} {a : Addr} {xs : List V} {i : Nat} {v : V}
theorem i_lenQ (h : H a = some (.lst xs) ∨ H a = some (.tup xs)) (q : Q (.int (xs.length : Int)) H) : rLenP K [.ref a] H Q := by
  rcases h with h | h
  · exact i_len_lst (.inl (.inl h)) q
  · exact i_len_tup (.inl (.inl h)) q
theorem i_ixQ (h : H a = some (.lst xs) ∨ H a = some (.tup xs)) (e : xs[i]? = some v) (q : Q v H) : ixP K (.ref a) (.int (i : Int)) H Q := by
  rcases h with h | h
  · exact i_ix_lst (.inl (.inl h)) (atI_nat e) q
  · exact i_ix_tup (.inl (.inl h)) (atI_nat e) q
end
section
variable {P : Program} {w : World} {K : PySem.W.Frag} {mg : Str → Option Value} {base : Heap} {C_GlimError C_BadOrder C_BadReader C_NoLine C_Orders : Addr}
def p_L_is_thing : P3 := fun x y z H Q _ => ∃ d c m, At H x d ∧ y = S [c] ∧ z = .int m ∧ d.canLay0 = true ∧ ∀ H', Same H H' → Q (.bl (thD m c d)) H'
theorem ok_L_is_thing (T : Txt K mg C_GlimError C_BadOrder C_BadReader C_NoLine C_Orders) : OK P w K mg base CX0 2 "_law_is_thing" ["_law_thing", "_law_part", "_law_many"] (sp3  p_L_is_thing) := by
  refine OK.mk (k := 1) T.d_L_is_thing sc_L_is_thing len3 fun f cdv A outer s H vs Q E hr h => ?_
  obtain ⟨x, y, z, rfl, h⟩ := h
  refine ⟨_, (pss_cons (ps_if (pt_cmpR (opEq K hr.units) (pv 1) (pe_S [116]) (nomark _)) (pss_one (ps_ret (pe_and (pe_f (ok_L_is_int (K := K) T) (hr.mono (by decide)) pass0 (pa_cons (pv 0) pa_nil)) (pe_one (pe_chain op_leP op_leP pe_int (pv 0) pe_int))))) pss_nil) (pss_cons (ps_if (pt_cmpR (opEq K hr.units) (pv 1) (pe_S [108]) (nomark _)) (pss_one (ps_ret (pe_and (pe_f (ok_L_is_int (K := K) T) (hr.mono (by decide)) pass0 (pa_cons (pv 0) pa_nil)) (pe_one (pe_chain op_leP op_ltP pe_int (pv 0) (pv 2)))))) pss_nil) (pss_cons (ps_if (pt_cmpR (opEq K hr.units) (pv 1) (pe_S [110]) (nomark _)) (pss_one (ps_ret (pe_f (ok_L_is_name (K := K) T) (hr.mono (by decide)) pass0 (pa_cons (pv 0) pa_nil)))) pss_nil) (pss_one (ps_ret (pe_f (ok_L_is_signs (K := K) T) (hr.mono (by decide)) pass0 (pa_cons (pv 0) pa_nil))))))), ?_⟩
  show (_ : TS) { nx := fun _ H' => Q .non H', rt := Q } [some x, some y, some z] H
  obtain ⟨d, c, m, hx, rfl, rfl, lay, q⟩ := h
  unfold thD at q
  have one : ∀ a b : Nat, (([a] : List Nat) = [b]) ↔ a = b := fun a b => by simp
  walk_at "go"
  refine i_dec (fun e => ?_) (fun e => ?_)
  · rw [if_pos ((one _ _).mp e)] at q
    walk_at "go"
    refine ⟨d, hx, ?_⟩
    refine ⟨_, rfl, ?_⟩
    cases d
    case int i =>
      obtain rfl := hx.intd
      have q0 := q H (Same.refl H)
      rw [isIn_int] at q0
      rw [show isI (.int i) = true from rfl]
      walk_at "go"
      refine i_dec (fun e2 => ?_) (fun e2 => ?_)
      · rw [decide_eq_true e2, Bool.true_and] at q0
        walk_at "go"
        exact q0
      · rw [decide_eq_false e2, Bool.false_and] at q0
        exact q0
    all_goals exact q H (Same.refl H)
  rw [if_neg (fun z => e ((one _ _).mpr z))] at q
  walk_at "go"
  refine i_dec (fun e2 => ?_) (fun e2 => ?_)
  · rw [if_pos ((one _ _).mp e2)] at q
    walk_at "go"
    refine ⟨d, hx, ?_⟩
    refine ⟨_, rfl, ?_⟩
    cases d
    case int i =>
      obtain rfl := hx.intd
      have q0 := q H (Same.refl H)
      rw [isIn_int] at q0
      rw [show isI (.int i) = true from rfl]
      walk_at "go"
      refine i_dec (fun e3 => ?_) (fun e3 => ?_)
      · rw [decide_eq_true e3, Bool.true_and] at q0
        walk_at "go"
        have e4 : decide (i < m) = decide (i ≤ m - 1) := by
          rw [Bool.eq_iff_iff, decide_eq_true_eq, decide_eq_true_eq]; omega
        rw [e4]
        exact q0
      · rw [decide_eq_false e3, Bool.false_and] at q0
        exact q0
    all_goals exact q H (Same.refl H)
  rw [if_neg (fun z => e2 ((one _ _).mpr z))] at q
  walk_at "go"
  refine i_dec (fun e3 => ?_) (fun e3 => ?_)
  · rw [if_pos ((one _ _).mp e3)] at q
    walk_at "go"
    exact ⟨d, hx, lay, q⟩
  rw [if_neg (fun z => e3 ((one _ _).mpr z))] at q
  walk_at "go"
  exact ⟨d, hx, q⟩
/-- a list or a tuple -/
def p_L_is_order (K : PySem.W.Frag) : P2 := fun x y H Q _ => ∃ d m, At H x d ∧ y = .int m ∧ d.canLay0 = true ∧ ∀ H', Same H H' → Q (.bl (isOrd m (deepD d))) H'
theorem ok_L_is_order (T : Txt K mg C_GlimError C_BadOrder C_BadReader C_NoLine C_Orders) : OK P w K mg base CX0 3 "_law_is_order" ["_law_thing", "_law_many"] (sp2  (p_L_is_order K)) := by
  refine OK.mk (k := 2) T.d_L_is_order sc_L_is_order len2 fun f cdv A outer s H vs Q E hr h => ?_
  obtain ⟨x, y, rfl, h⟩ := h
  refine ⟨_, (pss_cons (ps_if (pw_or (pt_not (pt_val (pe_callB (cIsiT K) (by rfl) T.b_isinstance (by decide +kernel) (pa_cons (pv 0) (pa_cons (pe_tup (pa_cons (pe_bltn (v := .ty "list") (by rfl) T.b_list (by decide +kernel) rfl) (pa_cons (pe_bltn (v := .ty "tuple") (by rfl) T.b_tuple (by decide +kernel) rfl) pa_nil))) pa_nil))))) (pw_or1 (pt_cmpR (opEq K hr.units) (pe_callB (cLen K) (by rfl) T.b_len (by decide +kernel) (pa_cons (pv 0) pa_nil)) pe_int (nomark _)))).pt (pss_one (ps_ret pe_bl)) pss_nil) (pss_cons (ps_set (i := 2) sc_L_is_order.nd rfl (Or.inr rfl) (pe_f (ok_L_form (K := K) T) (hr.mono (by decide)) pass0 (pa_cons (pe_ix (ixK K) (pv 0) pe_int (fun _ _ => rfl)) pa_nil))) (pss_cons (ps_if (pw_or (pt_cmpR op_isP (pv 2) pe_non (nomark _)) (pw_or1 (pt_cmpR (opNe K hr.units) (pe_callB (cLen K) (by rfl) T.b_len (by decide +kernel) (pa_cons (pv 0) pa_nil)) (pe_op (opAdd K) pe_int (pe_callB (cLen K) (by rfl) T.b_len (by decide +kernel) (pa_cons (pv 2) pa_nil))) (nomark _)))).pt (pss_one (ps_ret pe_bl)) pss_nil) (pss_one (ps_ret (pe_cmpR (opEq K hr.units) (pe_lc (own := [("_law_place", 3)]) (g := gName 3) (by rfl) sc_L_is_order.nd (pi_range1 rfl T.b_range (pa_cons (pe_callB (cLen K) (by rfl) T.b_len (by decide +kernel) (pa_cons (pv 2) pa_nil)) pa_nil)) (blkOk_by (own := [("_law_place", 3)]) (N := ["_law_thing", "_law_many", "_law_form_here", "_law_place"]) (sc := (defScope s_L_is_order)) (by decide +kernel)) (fun _ _ _ _ _ => (pg_name (i := 3) sc_L_is_order.nd rfl (Or.inl rfl))) (fun _ _ _ _ _ => (pts_one (pt_not (pt_val (pe_f (ok_L_is_thing (K := K) T) (hr.mono (by decide)) pass0 (pa_cons (pe_ix (ixK K) (pv 0) (pe_op (opAdd K) pe_int (pv 3)) (fun _ _ => rfl)) (pa_cons (pe_ix (ixK K) (pv 2) (pv 3) (fun _ _ => rfl)) (pa_cons (pv 1) pa_nil)))))))) (fun _ _ _ _ _ => (pv 3))) (pe_lst pa_nil) (nomark _))))))), ?_⟩
  show (_ : TS) { nx := fun _ H' => Q .non H', rt := Q } [some x, some y, none, none] H
  obtain ⟨d, m, hx, rfl, lay, q⟩ := h
  have q0 := q H (Same.refl H)
  cases es : seqD d with
  | none =>
    have ei : isSeqD d = false := by
      cases d <;> first
        | rfl
        | cases es
    have e0 : isOrd m (deepD d) = false := by
      cases d <;> first
        | rfl
        | cases es
    rw [e0] at q
    walk_at "go"
    refine i_new (by show 2 ≤ 100000; omega) fun tp ntp => ?_
    walk_at "go"
    refine i_isiSeq false (hx.same (same_upd ntp)) upd_same ei ?_
    walk_at "go"
    exact q _ (same_upd ntp)
  | some ds =>
    have ei : isSeqD d = true := by
      cases d <;> first
        | rfl
        | cases es
    obtain ⟨a, xs, rfl, hl, al, hs⟩ := seq_at hx es
    have ed : deepD d = .tuple (deepD.deepDs ds) := by
      cases d <;> first
        | (cases es; rfl)
        | cases es
    have lays : PyData.canLayAll0 ds = true := by
      cases d <;> first
        | (cases es; simpa only [PyData.canLay0] using lay)
        | cases es
    rw [ed] at q
    have ll := al.len
    have len : ∀ {G : Hp} {R : VK}, Same H G → R (.int (xs.length : Int)) G → rLenP K [.ref a] G R := fun s k => i_lenQ (hs.imp (s _ _) (s _ _)) k
    have ix : ∀ {G : Hp} {R : VK} {i : Nat} {v : V}, Same H G → xs[i]? = some v → R v G → ixP K (.ref a) (.int (i : Int)) G R := fun s e k => i_ixQ (hs.imp (s _ _) (s _ _)) e k
    walk_at "go"
    refine i_new (by show 2 ≤ 100000; omega) fun tp ntp => ?_
    have s1 := same_upd (o := .tup [.ty "list", .ty "tuple"]) ntp
    walk_at "go"
    refine i_isiSeq true (hx.same s1) upd_same ei ?_
    generalize upd H tp (.tup [.ty "list", .ty "tuple"]) = H1 at *
    walk_at "go"
    refine len s1 ?_
    walk_at "go"
    cases ds with
    | nil =>
      have e0 : ((xs.length : Int) = 0) := by have := (show xs.length = 0 from ll); omega
      rw [decide_eq_true e0]
      walk_at "go"
      exact q _ s1
    | cons w r =>
    have xl : xs.length = r.length + 1 := by rw [ll]; rfl
    rw [decide_eq_false (show ¬ ((xs.length : Int) = 0) by omega)]
    have q : ∀ H', Same H H' → Q (.bl (ordD m (deepD w) (deepD.deepDs r))) H' := q
    rw [ord_form] at q
    obtain ⟨v0, hv0, a0⟩ := al.at (i := 0) (d := w) rfl
    walk_at "go"
    refine ix (i := 0) s1 hv0 ?_
    walk_at "go"
    refine ⟨w, a0.same s1, fun H2 s2 => ?_⟩
    have s12 := s1.trans s2
    cases ef : formD w with
    | none =>
      rw [ef] at q
      unfold optS
      walk_at "go"
      exact q _ s12
    | some f =>
      rw [ef] at q
      have q : ∀ H', Same H H' → Q (.bl (allT m f r)) H' := q
      obtain ⟨f3, fc⟩ := formD_small ef
      unfold optS
      walk_at "go"
      refine len s12 ?_
      walk_at "go"
      refine i_decN (fun e1 => ?_) (fun e1 => ?_)
      · rw [allT_no (show r.length ≠ f.length by omega)] at q
        walk_at "go"
        exact q _ s12
      have el : r.length = f.length := by omega
      walk_at "go"
      refine c_rng1 f.length (fun R k => by walk_at "go"; exact k) (by omega) (fun i => !thD m (f.getD i 0) (r.getD i .none)) (fun i => .int (i : Int)) (fun _ => rfl) (fun i H3 hi s3 QB k => ?_) (fun i H3 hi s3 _ QV k => ?_) (fun Dl H3 n3 s3 d3 => ?_)
      · show (_ : TT) [some (.ref a), some (.int m), some (S f), some (.int (i : Int))] H3 QB
        have hc : f[i]? = some (f.getD i 0) := by rw [List.getD_eq_getElem?_getD, List.getElem?_eq_getElem hi]; rfl
        have hr' : r[i]? = some (r.getD i .none) := by rw [List.getD_eq_getElem?_getD, List.getElem?_eq_getElem (by omega)]; rfl
        generalize f.getD i 0 = c at *
        generalize r.getD i .none = e at *
        obtain ⟨v, hv, av⟩ := al.at (i := i + 1) (d := e) hr'
        have s13 := s12.trans s3
        have e1 : (1 : Int) + (i : Int) = ((i + 1 : Nat) : Int) := by omega
        walk_at "go"
        rw [e1]
        refine ix (i := i + 1) s13 hv ?_
        walk_at "go"
        refine i_ix_str (by omega) (by omega) (by rw [Int.toNat_natCast]; exact hc) ?_
        walk_at "go"
        refine ⟨e, c, m, av.same s13, rfl, rfl, lay_mem lays (List.mem_cons_of_mem _ (List.mem_of_getElem? hr')), fun H4 s4 => ?_⟩
        refine ⟨_, rfl, ?_⟩
        exact k H4 s4
      · show (_ : TE) [some (.ref a), some (.int m), some (S f), some (.int (i : Int))] H3 QV
        walk_at "go"
        exact k H3 (Same.refl H3)
      · walk_at "go"
        refine i_new (by show 0 ≤ 100000; omega) fun p np => ?_
        have ep : Dl ≠ p := ne_of_none d3 np
        have ek : kept (fun i => !thD m (f.getD i 0) (r.getD i .none)) (fun i => V.int (i : Int)) f.length = (((List.range f.length).filter fun i => !thD m (f.getD i 0) (r.getD i .none)).map fun i : Nat => (i : Int)).map V.int := by
          unfold kept
          rw [List.map_map]; rfl
        rw [ek] at d3
        have em : decide ((((List.range f.length).filter fun i => !thD m (f.getD i 0) (r.getD i .none)).map fun i : Nat => (i : Int)) = []) = allT m f r := by
          rw [Bool.eq_iff_iff, decide_eq_true_eq, List.map_eq_nil_iff, List.filter_eq_nil_iff, allT_iff el]
          constructor
          · intro h i c d hc hd
            have hi := (List.getElem?_eq_some_iff.mp hc).1
            have := h i (List.mem_range.mpr hi)
            rw [List.getD_eq_getElem?_getD, List.getD_eq_getElem?_getD, hc, hd] at this
            simpa using this
          · intro h i hi
            have hi := List.mem_range.mp hi
            have hc : f[i]? = some (f.getD i 0) := by rw [List.getD_eq_getElem?_getD, List.getElem?_eq_getElem hi]; rfl
            have hr' : r[i]? = some (r.getD i .none) := by rw [List.getD_eq_getElem?_getD, List.getElem?_eq_getElem (by omega)]; rfl
            rw [h i _ _ hc hr']
            decide
        generalize (((List.range f.length).filter fun i => !thD m (f.getD i 0) (r.getD i .none)).map fun i : Nat => (i : Int)) = ns at *
        have sh : SeqAt.shaped (.list (ns.map .int)) = true := by
          unfold SeqAt.shaped
          rw [Bool.and_eq_true]
          refine ⟨by simp only [PyData.canLay0]; exact (lay_ints ns).1, decide_eq_true ?_⟩
          show PyData.depthAll _ + 1 ≤ 64
          rw [(lay_ints ns).2]; decide
        refine i_eq_data (.lst (.inl (.inl ((upd_ne ep).trans d3))) (dp_ints ns)) (.lst (.inl (.inl upd_same)) .nil) sh (by decide) (eqv_ints ns) ?_
        rw [em]
        exact q _ ((s12.trans s3).trans (same_upd np))
/-- the number of the first line that is no order, -1 for a wrong whole -/
def p_L_due : P1 := fun x H Q _ => ∃ d, At H x d ∧ d.canLay0 = true ∧ ∀ H', Same H H' → Q (optV (badO (deepD d))) H'
theorem ok_L_due (T : Txt K mg C_GlimError C_BadOrder C_BadReader C_NoLine C_Orders) : OK P w K mg base CX0 4 "_law_due" ["_law_handed"] (sp1  p_L_due) := by
  refine OK.mk (k := 3) T.d_L_due sc_L_due len1 fun f cdv A outer s H vs Q E hr h => ?_
  obtain ⟨x, rfl, h⟩ := h
  refine ⟨_, (pss_cons (ps_if (pw_or (pt_not (pt_val (pe_callB (cIsiT K) (by rfl) T.b_isinstance (by decide +kernel) (pa_cons (pv 0) (pa_cons (pe_tup (pa_cons (pe_bltn (v := .ty "list") (by rfl) T.b_list (by decide +kernel) rfl) (pa_cons (pe_bltn (v := .ty "tuple") (by rfl) T.b_tuple (by decide +kernel) rfl) pa_nil))) pa_nil))))) (pw_or1 (pt_not (pt_chain op_leP op_leP pe_int (pe_callB (cLen K) (by rfl) T.b_len (by decide +kernel) (pa_cons (pv 0) pa_nil)) pe_int)))).pt (pss_one (ps_ret (pe_un un_neg pe_int))) pss_nil) (pss_cons (ps_for PassesOwn.never rfl (pi_range1 rfl T.b_range (pa_cons (pe_callB (cLen K) (by rfl) T.b_len (by decide +kernel) (pa_cons (pv 0) pa_nil)) pa_nil)) (pg_name (i := 1) sc_L_due.nd rfl (Or.inl rfl)) (pss_one (ps_if (pt_not (pt_val (pe_f (ok_L_is_order (K := K) T) (hr.mono (by decide)) pass0 (pa_cons (pe_ix (ixK K) (pv 0) (pv 1) (fun _ _ => rfl)) (pa_cons (pe_callB (cLen K) (by rfl) T.b_len (by decide +kernel) (pa_cons (pv 0) pa_nil)) pa_nil))))) (pss_one (ps_ret (pv 1))) pss_nil))) (pss_one (ps_ret pe_non)))), ?_⟩
  show (_ : TS) { nx := fun _ H' => Q .non H', rt := Q } [some x, none] H
  obtain ⟨d, hx, lay, q⟩ := h
  cases es : seqD d with
  | none =>
    have ei : isSeqD d = false := by
      cases d <;> first
        | rfl
        | cases es
    have e0 : badO (deepD d) = some (-1) := by
      cases d <;> first
        | rfl
        | cases es
    rw [e0] at q
    walk_at "go"
    refine i_new (by show 2 ≤ 100000; omega) fun tp ntp => ?_
    walk_at "go"
    refine i_isiSeq false (hx.same (same_upd ntp)) upd_same ei ?_
    walk_at "go"
    exact q _ (same_upd ntp)
  | some ds =>
    have ei : isSeqD d = true := by
      cases d <;> first
        | rfl
        | cases es
    obtain ⟨a, xs, rfl, hl, al, hs⟩ := seq_at hx es
    have ed : deepD d = .tuple (deepD.deepDs ds) := by
      cases d <;> first
        | (cases es; rfl)
        | cases es
    have lays : PyData.canLayAll0 ds = true := by
      cases d <;> first
        | (cases es; simpa only [PyData.canLay0] using lay)
        | cases es
    rw [ed] at q
    have ll := al.len
    have q : ∀ H', Same H H' → Q (optV (if 1 ≤ (deepD.deepDs ds).length ∧ (deepD.deepDs ds).length ≤ 20 then (badOAt (deepD.deepDs ds).length (deepD.deepDs ds)).map fun n : Nat => (n : Int) else some (-1))) H' := q
    rw [deeps_len] at q
    have len : ∀ {G : Hp} {R : VK}, Same H G → R (.int (xs.length : Int)) G → rLenP K [.ref a] G R := fun s k => i_lenQ (hs.imp (s _ _) (s _ _)) k
    have ix : ∀ {G : Hp} {R : VK} {i : Nat} {v : V}, Same H G → xs[i]? = some v → R v G → ixP K (.ref a) (.int (i : Int)) G R := fun s e k => i_ixQ (hs.imp (s _ _) (s _ _)) e k
    walk_at "go"
    refine i_new (by show 2 ≤ 100000; omega) fun tp ntp => ?_
    have s1 := same_upd (o := .tup [.ty "list", .ty "tuple"]) ntp
    walk_at "go"
    refine i_isiSeq true (hx.same s1) upd_same ei ?_
    generalize upd H tp (.tup [.ty "list", .ty "tuple"]) = H1 at *
    walk_at "go"
    refine len s1 ?_
    walk_at "go"
    refine i_dec (fun e1 => ?_) (fun e1 => ?_)
    rotate_left
    · rw [if_neg (by omega)] at q
      walk_at "go"
      exact q _ s1
    walk_at "go"
    refine i_decN (fun e2 => ?_) (fun e2 => ?_)
    · rw [if_neg (by omega)] at q
      walk_at "go"
      exact q _ s1
    rw [if_pos (by omega)] at q
    walk_at "go"
    refine f_rng1 xs.length (fun R k => by walk_at "go"; exact len s1 k) (by omega) (fun i σ G => ∃ v1, σ = [some (.ref a), v1] ∧ Same H G ∧ ∀ k < i, ∀ c, (deepD.deepDs ds)[k]? = some c → isOrd ds.length c = true) ⟨none, rfl, s1, fun k hk => absurd hk (Nat.not_lt_zero _)⟩ ?_ ?_
    · rintro i σ G hi ⟨v1, rfl, sG, hb⟩
      show (_ : TS) _ [some (.ref a), some (.int (i : Int))] G
      have hd : ds[i]? = some (ds.getD i .none) := by rw [List.getD_eq_getElem?_getD, List.getElem?_eq_getElem (by omega)]; rfl
      generalize ds.getD i .none = c at *
      obtain ⟨v, hv, av⟩ := al.at hd
      have hdd : (deepD.deepDs ds)[i]? = some (deepD c) := by rw [deepDs_map, List.getElem?_map, hd]; rfl
      walk_at "go"
      refine ix sG hv ?_
      walk_at "go"
      refine len sG ?_
      rw [ll]
      walk_at "go"
      refine ⟨c, ds.length, av.same sG, rfl, lay_mem lays (List.mem_of_getElem? hd), fun H2 s2 => ?_⟩
      refine ⟨_, rfl, ?_⟩
      cases ew : isOrd ds.length (deepD c) with
      | true =>
        walk_at "go"
        refine ⟨_, rfl, sG.trans s2, fun k hk c' hc' => ?_⟩
        rcases Nat.lt_or_ge k i with h | h
        · exact hb k h c' hc'
        · have : k = i := by omega
          subst this
          rw [hdd] at hc'
          cases hc'
          exact ew
      | false =>
        rw [badO_some hdd ew hb] at q
        walk_at "go"
        exact q _ (sG.trans s2)
    · rintro σ G ⟨v1, rfl, sG, hb⟩
      rw [badO_none (ds := deepD.deepDs ds) (fun k hk => hb k (by rw [deeps_len] at hk; omega))] at q
      walk_at "go"
      exact q _ sG
end
end K42
namespace K42
open PySem PySem.Spec PyProof.Rows L2 Fg
local macro_rules | `(tactic| walk_at "sq") => `(tactic| first
  | assumption
  | exact .inl (.inl (by assumption))
  | exact .inl (.inl upd_same))
local macro_rules | `(tactic| walk_at "st") => `(tactic| first
  | assumption
  | exact .inl (.inl (by assumption))
  | exact .inl (.inl upd_same))
local macro_rules | `(tactic| walk_at "o") => `(tactic| first
  | omega
  | assumption
  | (simp only [List.length_append, List.length_take, List.length_drop, List.length_cons, List.length_nil, List.length_singleton, List.length_map, List.length_range, Int.toNat_natCast] ; omega))
local macro_rules | `(tactic| walk_at "s") => `(tactic| first
  | (with_reducible refine i_seq ?_)
  | (with_reducible refine i_asg ?_)
  | ((with_reducible refine' i_var ?h1 ?_); (case h1 => rfl))
  | (with_reducible refine i_c ?_)
  | ((with_reducible refine' i_gname' ?h1 ?_); (case h1 => (simp only [List.set_cons_zero, List.set_cons_succ]; rfl)))
  | (with_reducible refine i_op ?_)
  | (with_reducible refine i_ifS ?_)
  | (with_reducible refine i_for ?_)
  | (with_reducible refine i_test ?_)
  | (with_reducible refine i_B ?_)
  | (with_reducible refine i_exbl ?_)
  | (with_reducible refine i_exint ?_)
  | (with_reducible refine i_cb ?_)
  | (with_reducible refine i_nil ?_)
  | (with_reducible refine i_cons ?_)
  | (with_reducible refine i_ret ?_)
  | (with_reducible refine i_sl ?_)
  | (with_reducible refine i_nopart ?_)
  | (with_reducible refine i_part ?_)
  | (with_reducible refine i_add_int ?_)
  | (with_reducible refine i_sub ?_)
  | (with_reducible refine i_lt ?_)
  | ((with_reducible refine' i_mod ?h1 ?_); (case h1 => walk_at "o"))
  | ((with_reducible refine' i_fdiv ?h1 ?_); (case h1 => (refine cdiv_small ?_ ?_ <;> walk_at "o")))
  | ((with_reducible refine' i_sl_to ?h1 ?h2 ?_); (case h1 => walk_at "o"); (case h2 => walk_at "o"))
  | ((with_reducible refine' i_sl_from ?h1 ?h2 ?_); (case h1 => walk_at "o"); (case h2 => walk_at "o"))
  | ((with_reducible refine' i_add_str ?h1 ?_); (case h1 => walk_at "o"))
  | ((with_reducible refine' i_mul_int ?h1 ?_); (case h1 => first | (refine mul_small ?_ ?_ <;> walk_at "o") | (refine mul_smallR ?_ ?_ <;> walk_at "o")))
  | (with_reducible refine i_le ?_)
  | (with_reducible refine i_gt ?_)
  | (with_reducible refine i_ge ?_)
  | (with_reducible refine i_eq_int ?_)
  | (with_reducible refine i_eq_str ?_)
  | (with_reducible refine i_ne_int ?_)
  | (with_reducible refine i_ne_str ?_)
  | (with_reducible refine i_eq_bl ?_)
  | (with_reducible refine i_ne_bl ?_)
  | (with_reducible refine i_in_sg ?_)
  | (with_reducible refine i_notIn_sg ?_)
  | (with_reducible refine i_call ?_)
  | (with_reducible refine i_callS ?_)
  | (with_reducible refine i_sp1 ?_)
  | (with_reducible refine i_sp2 ?_)
  | (with_reducible refine i_sp3 ?_)
  | (with_reducible refine i_sp4 ?_)
  | (with_reducible refine i_sp1' ?_)
  | (with_reducible refine i_sp2' ?_)
  | (with_reducible refine i_sp3' ?_)
  | ((with_reducible refine' i_ix_lst ?h1 ?h2 ?_); (case h1 => walk_at "sq"); (case h2 => first | exact atI_nat rfl | rfl))
  | ((with_reducible refine' i_ix_tup ?h1 ?h2 ?_); (case h1 => walk_at "st"); (case h2 => first | exact atI_nat rfl | rfl))
  | (with_reducible refine i_gsub ?_)
  | (with_reducible refine i_par ?_)
  | (with_reducible refine i_lstRg1 ?_)
  | (with_reducible refine i_app ?_)
  | (with_reducible refine i_par2 ?_)
  | ((with_reducible refine' i_aug ?h1 ?_); (case h1 => rfl))
  | (with_reducible refine i_ipI ?_)
  | ((with_reducible refine' i_gtup2 ?h1 ?_); (case h1 => walk_at "st"))
  | (with_reducible refine i_int_bl ?_)
  | (with_reducible refine i_raise ?_)
  | (with_reducible refine i_mkE ?_)
  | (with_reducible refine i_ex1 ?_)
  | (with_reducible refine i_and ?_)
  | (with_reducible refine i_or ?_)
  | (with_reducible refine i_not ?_)
  | (with_reducible refine i_tt ?_)
  | (with_reducible refine i_ff ?_)
  | (with_reducible refine i_nott ?_)
  | (with_reducible refine i_notf ?_)
  | (with_reducible refine i_andV ?_)
  | (with_reducible refine i_orV ?_)
  | (with_reducible refine i_notV ?_)
  | (with_reducible refine i_ifE ?_)
  | (with_reducible refine i_tup ?_)
  | (with_reducible refine i_lst ?_)
  | (with_reducible refine i_un ?_)
  | (with_reducible refine i_neg ?_)
  | (with_reducible refine i_chain ?_)
  | (with_reducible refine i_next ?_)
  | (with_reducible refine i_retN ?_)
  | (with_reducible refine i_drop ?_)
  | (with_reducible refine i_int_int ?_)
  | (with_reducible refine i_abs ?_)
  | (with_reducible refine i_m1c ?_)
  | (with_reducible refine i_is_non ?_)
  | (with_reducible refine i_is_int ?_)
  | (with_reducible refine i_is_bl ?_)
  | (with_reducible refine i_isn_bl ?_)
  | (with_reducible refine i_is_str ?_)
  | (with_reducible refine i_is_ref ?_)
  | (with_reducible refine i_isn_non ?_)
  | (with_reducible refine i_isn_int ?_)
  | (with_reducible refine i_isn_str ?_)
  | (with_reducible refine i_isn_ref ?_)
  | (with_reducible refine i_len_str ?h1 ?_; (case h1 => walk_at "o"))
  | (with_reducible refine i_callD ?_)
  | (with_reducible refine i_spD2 ?_)
  | (with_reducible refine i_spM1 ?_)
  | (with_reducible refine i_spM2 ?_)
  | (with_reducible refine i_spM3 ?_)
  | (with_reducible refine i_spM4 ?_)
  | (with_reducible refine i_spM3d ?_)
  | (with_reducible refine i_tfld ?_)
  | (with_reducible refine i_sfld ?_)
  | (with_reducible refine i_meth ?_)
  | (with_reducible refine i_make ?_)
  | (with_reducible refine i_spl ?_)
  | (with_reducible refine i_mkE2 ?_)
  | (with_reducible refine i_ex2 ?_)
  | (with_reducible refine i_dget ?_)
  | (with_reducible refine i_tru ?_)
  | (with_reducible refine i_dput ?_)
  | (with_reducible refine i_dnotin ?_)
  | (with_reducible refine i_din ?_)
  | (with_reducible refine i_isi_int_int ?_) | (with_reducible refine i_isi_int_bool ?_) | (with_reducible refine i_isi_int_str ?_) | (with_reducible refine i_isi_int_tuple ?_) | (with_reducible refine i_isi_int_list ?_)
  | (with_reducible refine i_isi_bl_int ?_) | (with_reducible refine i_isi_bl_bool ?_) | (with_reducible refine i_isi_bl_str ?_) | (with_reducible refine i_isi_bl_tuple ?_) | (with_reducible refine i_isi_bl_list ?_)
  | (with_reducible refine i_isi_str_int ?_) | (with_reducible refine i_isi_str_bool ?_) | (with_reducible refine i_isi_str_str ?_) | (with_reducible refine i_isi_str_tuple ?_) | (with_reducible refine i_isi_str_list ?_)
  | (with_reducible refine i_isi_non_int ?_) | (with_reducible refine i_isi_non_bool ?_) | (with_reducible refine i_isi_non_str ?_) | (with_reducible refine i_isi_non_tuple ?_) | (with_reducible refine i_isi_non_list ?_))
local macro_rules | `(tactic| walk_at "go") => `(tactic| (repeat' (walk_at "s")))
local macro_rules | `(tactic| walk_at "n") => `(tactic| simp only [wipe, List.map_cons, List.map_nil, List.set_cons_zero, List.set_cons_succ])
/-! ### names, sets of signs, lines that the law draws -/
abbrev LET : List Nat := [97, 98, 99, 100, 101, 102, 103, 104, 105, 106, 107, 108, 109, 110, 111, 112, 113, 114, 115, 116, 117, 118, 119, 120, 121, 122]
abbrev TWO : List (List Nat) := [[], [55], [98, 111], [122, 122, 122]]
def wordsN : List (List Nat) := LET.flatMap fun c => TWO.map fun t => c :: t
theorem wordsN_at : ∀ i < 26, ∀ j < 4, wordsN[4 * i + j]? = some (LET.getD i 0 :: TWO.getD j []) := by decide +kernel
theorem wordsN_len : wordsN.length = 104 := by decide +kernel
theorem wordsN_ok : ∀ w ∈ wordsN, (isMkL w && decide (w ≠ [])) = true ∧ w.length ≤ 4 ∧ ∀ c ∈ w, c < 256 := by decide +kernel
theorem wordsN_3 : [97] ∈ wordsN ∧ [97, 55] ∈ wordsN ∧ [97, 98, 111] ∈ wordsN := by decide +kernel
def PL (used : List (List Nat)) (n : Nat) : List (List Nat) := (wordsN.take n).filter fun w => !decide (w ∈ used)
theorem PL_step {used : List (List Nat)} {n : Nat} {w : List Nat} (h : wordsN[n]? = some w) : PL used (n + 1) = if w ∈ used then PL used n else PL used n ++ [w] := by
  unfold PL
  rw [List.take_succ, h, List.filter_append]
  by_cases e : w ∈ used
  · rw [if_pos e]
    show _ ++ List.filter _ [w] = _
    rw [List.filter_cons_of_neg (by rw [decide_eq_true e]; decide)]
    simp
  · rw [if_neg e]
    show _ ++ List.filter _ [w] = _
    rw [List.filter_cons_of_pos (by rw [decide_eq_false e]; rfl)]
    rfl
theorem PL_mem {used : List (List Nat)} {n : Nat} {w : List Nat} (h : w ∈ PL used n) : w ∈ wordsN := List.mem_of_mem_take (List.mem_filter.mp h).1
theorem PL_len (used : List (List Nat)) (n : Nat) : (PL used n).length ≤ 104 := by
  unfold PL
  refine Nat.le_trans (List.length_filter_le _ _) ?_
  rw [List.length_take, wordsN_len]
  omega
theorem PL_pos {used : List (List Nat)} (h : used.length ≤ 2) : 1 ≤ (PL used 104).length := by
  have e : PL used 104 = wordsN.filter fun w => !decide (w ∈ used) := by
    unfold PL
    rw [List.take_of_length_le (by rw [wordsN_len]; exact Nat.le_refl _)]
  rcases Nat.eq_zero_or_pos (PL used 104).length with z | z
  · have z' := List.length_eq_zero_iff.mp z
    rw [e, List.filter_eq_nil_iff] at z'
    have key : ∀ w ∈ wordsN, w ∈ used := fun w hw => Decidable.byContradiction fun n => z' w hw (by rw [decide_eq_false n]; rfl)
    obtain ⟨m1, m2, m3⟩ := wordsN_3
    have h1 := key _ m1
    have h2 := key _ m2
    have h3 := key _ m3
    match used, h with
    | [], _ => cases h1
    | [x], _ =>
      have a := List.mem_singleton.mp h1
      have b := List.mem_singleton.mp h2
      rw [← a] at b; cases b
    | [x, y], _ =>
      have a : [97] = x ∨ [97] = y := by simpa using h1
      have b : [97, 55] = x ∨ [97, 55] = y := by simpa using h2
      have c : [97, 98, 111] = x ∨ [97, 98, 111] = y := by simpa using h3
      exfalso
      rcases a with a | a <;> rcases b with b | b <;> rcases c with c | c <;> first
        | (rw [← a] at b; exact absurd b (by decide))
        | (rw [← a] at c; exact absurd c (by decide))
        | (rw [← b] at c; exact absurd c (by decide))
  · exact z
/-- a part of a good line -/
def PartF (e : PyData) : Prop := (∃ l, e = dS l ∧ l.length ≤ 10 ∧ ∀ c ∈ l, c < 256) ∨ ∃ i : Int, e = .int i ∧ 0 ≤ i ∧ i ≤ 100
structure GoodO (m : Int) (xs : List V) (es : List PyData) : Prop where
  ok : isOrd m (.tuple es) = true
  ats : ∀ B, AtAll B xs es
  fl : ∀ e ∈ es, PartF e
  ne : es ≠ []
  len : es.length ≤ 4
def PW (i : Nat) : Int := [1, 2, 4, 8].getD i 1
def sgOf (k : Int) : List Nat := ((List.range 4).filter fun i => decide ((k / PW i) % 2 = 1)).map fun i => SG.getD i 0
theorem sgOf_ok : ∀ n < 16, 1 ≤ n → sgsL (sgOf ((n : Nat) : Int)) = true ∧ (sgOf ((n : Nat) : Int)).length ≤ 4 ∧ ∀ c ∈ sgOf ((n : Nat) : Int), c < 256 := by decide +kernel
def GoodS (l : List Nat) : Prop := sgsL l = true ∧ l.length ≤ 4 ∧ ∀ c ∈ l, c < 256
theorem GoodS.part {l : List Nat} (h : GoodS l) : PartF (dS l) := .inl ⟨l, rfl, by have := h.2.1; omega, h.2.2⟩
theorem GoodS.at {l : List Nat} (h : GoodS l) (B : Hp) : At B (S l) (dS l) := .str l (by have := h.2.1; omega)
section
variable {P : Program} {w : World} {K : PySem.W.Frag} {mg : Str → Option Value} {base : Heap} {C_GlimError C_BadOrder C_BadReader C_NoLine C_Orders : Addr}
def p_L_name (K : PySem.W.Frag) : P2 := fun x y H Q _ => ∃ Hk dd us, ∃ used : List (List Nat), x = .ref dd.a ∧ y = .ref us ∧ Dr K dd Hk H ∧ Hk us = some (.lst (used.map S)) ∧ used.length ≤ 2 ∧ ∀ w H', Dr K dd Hk H' → w ∈ wordsN → Q (S w) H'
theorem ok_L_name (T : Txt K mg C_GlimError C_BadOrder C_BadReader C_NoLine C_Orders) : OK P w K mg base CX0 3 "_law_name" ["_law_draw_here", "_law_used"] (sp2  (p_L_name K)) := by
  refine OK.mk (k := 2) T.d_L_name sc_L_name len2 fun f cdv A outer s H vs Q E hr h => ?_
  obtain ⟨x, y, rfl, h⟩ := h
  refine ⟨_, (pss_cons (ps_set (i := 2) sc_L_name.nd rfl (Or.inl rfl) (pe_lst pa_nil)) (pss_cons (ps_for PassesOwn.never rfl (piAny K (pe_S [97, 98, 99, 100, 101, 102, 103, 104, 105, 106, 107, 108, 109, 110, 111, 112, 113, 114, 115, 116, 117, 118, 119, 120, 121, 122])) (pg_name (i := 3) sc_L_name.nd rfl (Or.inl rfl)) (pss_one (ps_for PassesOwn.never rfl (piAny K (pe_lst (pa_cons (pe_S []) (pa_cons (pe_S [55]) (pa_cons (pe_S [98, 111]) (pa_cons (pe_S [122, 122, 122]) pa_nil)))))) (pg_name (i := 4) sc_L_name.nd rfl (Or.inl rfl)) (pss_one (ps_if (pt_cmpR (opNotIn K) (pe_op (opAdd K) (pv 3) (pv 4)) (pv 1) (by with_unfolding_all rfl)) (pss_one (ps_expr (peApp K (pv 2) (pa_cons (pe_op (opAdd K) (pv 3) (pv 4)) pa_nil)))) pss_nil))))) (pss_one (ps_ret (pe_ix (ixK K) (pv 2) (pe_f (ok_L_pick (K := K) T) (hr.mono (by decide)) pass0 (pa_cons (pv 0) (pa_cons (pe_callB (cLen K) (by rfl) T.b_len (by decide +kernel) (pa_cons (pv 2) pa_nil)) pa_nil))) (fun _ _ => rfl)))))), ?_⟩
  show (_ : TS) { nx := fun _ H' => Q .non H', rt := Q } [some x, some y, none, none, none] H
  obtain ⟨Hk, dd, us, used, rfl, rfl, dr, hu, ul, q⟩ := h
  walk_at "go"
  refine i_new (by show 0 ≤ 100000; omega) fun pl npl => ?_
  have kpl := dr.free npl
  have hup : us ≠ pl := ne_of_none hu kpl
  walk_at "go"
  refine i_forS (z := LET) (fun i σ' G => ∃ v3 v4, σ' = [some (.ref dd.a), some (.ref us), some (.ref pl), v3, v4] ∧ Dr K dd (upd Hk pl (.lst ((PL used (4 * i)).map S))) G) ⟨none, none, rfl, dr.new npl⟩ ?_ ?_
  · rintro i c σ' G hc ⟨v3, v4, rfl, d1⟩
    show (_ : TS) _ [some (.ref dd.a), some (.ref us), some (.ref pl), some (S [c]), v4] G
    have hi : i < 26 := (List.getElem?_eq_some_iff.mp hc).1
    have ec : LET.getD i 0 = c := by rw [List.getD_eq_getElem?_getD, hc]; rfl
    walk_at "go"
    refine i_new (by show 4 ≤ 100000; omega) fun t nt => ?_
    have tp : t ≠ pl := fun z => by rw [z, d1.old upd_same] at nt; cases nt
    refine i_forL (xs := TWO.map S) (.inl (.inl upd_same)) (fun j σ' G' => ∃ v4, σ' = [some (.ref dd.a), some (.ref us), some (.ref pl), some (S [c]), v4] ∧ Dr K dd (upd Hk pl (.lst ((PL used (4 * i + j)).map S))) G' ∧ G' t = some (.lst (TWO.map S))) ⟨v4, rfl, d1.same (same_upd nt), upd_same⟩ ?_ ?_ ?_
    · rintro j σ' G' _ ⟨v4, rfl, _, g⟩
      exact .inl (.inl g)
    · rintro j x σ' G' hj ⟨v4, rfl, d3, g⟩
      rw [List.getElem?_map] at hj
      obtain ⟨tw, htw, rfl⟩ := Option.map_eq_some_iff.mp hj
      show (_ : TS) _ [some (.ref dd.a), some (.ref us), some (.ref pl), some (S [c]), some (S tw)] G'
      have hj4 : j < 4 := (List.getElem?_eq_some_iff.mp htw).1
      have et : TWO.getD j [] = tw := by rw [List.getD_eq_getElem?_getD, htw]; rfl
      have hw := wordsN_at i hi j hj4
      rw [ec, et] at hw
      have hw : wordsN[4 * i + j]? = some ([c] ++ tw) := hw
      have st := PL_step (used := used) hw
      have tl : tw.length ≤ 3 := by
        have : ∀ t ∈ TWO, t.length ≤ 3 := by decide
        exact this tw (List.mem_of_getElem? htw)
      have one : ([c] : List Nat).length = 1 := rfl
      have hus := d3.old ((upd_ne hup).trans hu)
      walk_at "go"
      refine i_ninS (ms := used) hus ?_
      walk_at "go"
      refine i_decN (fun e => ?_) (fun e => ?_)
      · rw [if_neg e] at st
        have hp := d3.old upd_same
        walk_at "go"
        refine i_appAt hp ?_
        walk_at "go"
        refine i_appEnd hp (by rw [List.length_map]; have := PL_len used (4 * i + j); omega) ?_
        have e2 : (PL used (4 * i + j)).map S ++ [S ([c] ++ tw)] = (PL used (4 * i + (j + 1))).map S := by
          rw [← Nat.add_assoc, st, List.map_append]; rfl
        rw [e2]
        exact ⟨_, rfl, d3.put dr.cells kpl, (upd_ne tp).trans g⟩
      · rw [if_pos e] at st
        walk_at "go"
        refine ⟨_, rfl, ?_, g⟩
        rw [← Nat.add_assoc, st]
        exact d3
    · rintro σ' G' ⟨v4, rfl, d3, g⟩
      exact ⟨_, _, rfl, d3⟩
  · rintro σ' G ⟨v3, v4, rfl, d1⟩
    have hp := d1.old upd_same
    have pos := PL_pos ul
    have le := PL_len used 104
    have d1 : Dr K dd (upd Hk pl (.lst ((PL used 104).map S))) G := d1
    have hp : G pl = some (.lst ((PL used 104).map S)) := hp
    have hmem : ∀ w ∈ PL used 104, w ∈ wordsN := fun w hw => PL_mem hw
    generalize PL used 104 = ws at *
    walk_at "go"
    refine i_len_lst (.inl (.inl hp)) ?_
    walk_at "go"
    refine ⟨_, dd, _, rfl, rfl, d1, by rw [List.length_map]; omega, fun n H2 d2 bn => ?_⟩
    rw [List.length_map] at bn
    have n0 := bn.1
    have n1 : n < (ws.length : Int) := by
      by_cases z : 2 ≤ (ws.length : Int)
      · exact bn.2.1 z
      · have := bn.2.2 (by omega); omega
    have hn : n.toNat < ws.length := by omega
    refine i_ix_lst (v := S ws[n.toNat]) (.inl (.inl (d2.old upd_same))) (atI_int n0 (by rw [List.getElem?_map, List.getElem?_eq_getElem hn]; rfl)) ?_
    exact q _ _ (d2.less dr.cells kpl) (hmem _ (List.getElem_mem hn))
def p_L_names (K : PySem.W.Frag) : P2 := fun x y H Q _ => ∃ Hk dd, x = .ref dd.a ∧ y = .int 2 ∧ Dr K dd Hk H ∧ ∀ nl n1 n2 H', Hk nl = none → Dr K dd (upd Hk nl (.lst [S n1, S n2])) H' → n1 ∈ wordsN → n2 ∈ wordsN → Q (.ref nl) H'
theorem ok_L_names (T : Txt K mg C_GlimError C_BadOrder C_BadReader C_NoLine C_Orders) : OK P w K mg base CX0 4 "_law_names" ["_law_draw_here", "_law_many"] (sp2  (p_L_names K)) := by
  refine OK.mk (k := 3) T.d_L_names sc_L_names len2 fun f cdv A outer s H vs Q E hr h => ?_
  obtain ⟨x, y, rfl, h⟩ := h
  refine ⟨_, (pss_cons (ps_set (i := 2) sc_L_names.nd rfl (Or.inl rfl) (pe_lst pa_nil)) (pss_cons (ps_for PassesOwn.never rfl (pi_range1 rfl T.b_range (pa_cons (pv 1) pa_nil)) (pg_name (i := 3) sc_L_names.nd rfl (Or.inl rfl)) (pss_one (ps_expr (peApp K (pv 2) (pa_cons (pe_f (ok_L_name (K := K) T) (hr.mono (by decide)) pass0 (pa_cons (pv 0) (pa_cons (pv 2) pa_nil))) pa_nil))))) (pss_one (ps_ret (pv 2))))), ?_⟩
  show (_ : TS) { nx := fun _ H' => Q .non H', rt := Q } [some x, some y, none, none] H
  obtain ⟨Hk, dd, rfl, rfl, dr, q⟩ := h
  walk_at "go"
  refine i_new (by show 0 ≤ 100000; omega) fun nl nnl => ?_
  have knl := dr.free nnl
  walk_at "go"
  refine f_rng1 2 (fun R k => by walk_at "go"; exact k) (by decide) (fun i σ G => ∃ v3 ns, σ = [some (.ref dd.a), some (.int 2), some (.ref nl), v3] ∧ Dr K dd (upd Hk nl (.lst (ns.map S))) G ∧ ns.length = i ∧ ∀ w ∈ ns, w ∈ wordsN) ⟨none, [], rfl, dr.new nnl, rfl, fun w h => absurd h (by simp)⟩ ?_ ?_
  · rintro i σ G hi ⟨v3, ns, rfl, d1, il, hm⟩
    show (_ : TS) _ [some (.ref dd.a), some (.int 2), some (.ref nl), some (.int (i : Int))] G
    have hp := d1.old upd_same
    walk_at "go"
    refine i_appAt hp ?_
    walk_at "go"
    refine ⟨_, dd, nl, ns, rfl, rfl, d1, upd_same, by omega, fun w H2 d2 hw => ?_⟩
    walk_at "go"
    refine i_appEnd (d2.old upd_same) (by rw [List.length_map]; omega) ?_
    have e2 : ns.map S ++ [S w] = (ns ++ [w]).map S := by rw [List.map_append]; rfl
    rw [e2]
    refine ⟨_, ns ++ [w], rfl, d2.put dr.cells knl, by rw [List.length_append, il]; rfl, fun x hx => ?_⟩
    rcases List.mem_append.mp hx with hx | hx
    · exact hm x hx
    · rw [List.mem_singleton.mp hx]; exact hw
  · rintro σ G ⟨v3, ns, rfl, d1, il, hm⟩
    obtain ⟨n1, n2, rfl⟩ := two_of il
    walk_at "go"
    exact q nl n1 n2 G knl d1 (hm _ (by simp)) (hm _ (by simp))
def p_L_signs (K : PySem.W.Frag) : P1 := fun x H Q _ => ∃ Hk dd, x = .ref dd.a ∧ Dr K dd Hk H ∧ ∀ l H', Dr K dd Hk H' → GoodS l → Q (S l) H'
theorem ok_L_signs (T : Txt K mg C_GlimError C_BadOrder C_BadReader C_NoLine C_Orders) : OK P w K mg base CX0 3 "_law_signs" ["_law_draw_here"] (sp1  (p_L_signs K)) := by
  refine OK.mk (k := 2) T.d_L_signs sc_L_signs len1 fun f cdv A outer s H vs Q E hr h => ?_
  obtain ⟨x, rfl, h⟩ := h
  refine ⟨_, (pss_cons (ps_set (i := 1) sc_L_signs.nd rfl (Or.inl rfl) (pe_f (ok_L_pick (K := K) T) (hr.mono (by decide)) pass0 (pa_cons (pv 0) (pa_cons pe_int pa_nil)))) (pss_cons (ps_if (pt_cmpR (opEq K hr.units) (pv 1) pe_int (nomark _)) (pss_one (ps_ret (pe_S [46]))) pss_nil) (pss_cons (ps_if (pt_cmpR (opEq K hr.units) (pv 1) pe_int (nomark _)) (pss_one (ps_ret (pe_S [103, 114, 119]))) pss_nil) (pss_cons (ps_set (i := 2) sc_L_signs.nd rfl (Or.inr rfl) (pe_op (opAdd K) pe_int (pe_f (ok_L_pick (K := K) T) (hr.mono (by decide)) pass0 (pa_cons (pv 0) (pa_cons pe_int pa_nil))))) (pss_one (ps_ret (peJoin K (pe_S []) (pe_lc (own := [("_law_place", 3)]) (g := gName 3) (by rfl) sc_L_signs.nd (pi_range1 rfl T.b_range (pa_cons pe_int pa_nil)) (blkOk_by (own := [("_law_place", 3)]) (N := ["_law_draw_here", "_law_kind", "_law_number", "_law_place"]) (sc := (defScope s_L_signs)) (by decide +kernel)) (fun _ _ _ _ _ => (pg_name (i := 3) sc_L_signs.nd rfl (Or.inl rfl))) (fun _ _ _ _ _ => (pts_one (pt_cmpR (opEq K hr.units) (pe_op op_modP (pe_callTy call_intP (by rfl) T.b_int (by decide +kernel) (pa_cons (pe_op op_fdivP (pv 2) (pe_ix (ixK K) (pe_lst (pa_cons pe_int (pa_cons pe_int (pa_cons pe_int (pa_cons pe_int pa_nil))))) (pv 3) (fun _ _ => rfl))) pa_nil)) pe_int) pe_int (nomark _)))) (fun _ _ _ _ _ => (pe_ix (ixK K) (pe_S [46, 103, 114, 119]) (pv 3) (fun _ _ => rfl))))))))))), ?_⟩
  show (_ : TS) { nx := fun _ H' => Q .non H', rt := Q } [some x, none, none, none] H
  obtain ⟨Hk, dd, rfl, dr, q⟩ := h
  walk_at "go"
  refine ⟨Hk, dd, 4, rfl, rfl, dr, by decide, fun k G1 d1 bk => ?_⟩
  walk_at "go"
  refine i_dec (fun e => ?_) (fun e => ?_)
  · walk_at "go"
    exact q _ _ d1 ⟨by decide, by decide, by decide⟩
  walk_at "go"
  refine i_dec (fun e2 => ?_) (fun e2 => ?_)
  · walk_at "go"
    exact q _ _ d1 ⟨by decide, by decide, by decide⟩
  walk_at "go"
  refine ⟨Hk, dd, 15, rfl, rfl, d1, by decide, fun n G2 d2 bn => ?_⟩
  have n0 := bn.1
  have n15 := bn.2.1 (by decide)
  walk_at "go"
  refine c_rng1 4 (fun R k => by walk_at "go"; exact k) (by decide) (fun i => decide (((1 + n) / PW i) % 2 = 1)) (fun i => S [SG.getD i 0]) (fun _ => rfl) (fun i H3 hi s3 QB k_1 => ?_) (fun i H3 hi s3 _ QV k_1 => ?_) (fun Dl H3 n3 s3 d3 => ?_)
  · show (_ : TT) [some (.ref dd.a), some (.int k), some (.int (1 + n)), some (.int (i : Int))] H3 QB
    have hi' : i = 0 ∨ i = 1 ∨ i = 2 ∨ i = 3 := by omega
    walk_at "go"
    refine i_new (by show 4 ≤ 100000; omega) fun t nt => ?_
    walk_at "go"
    rcases hi' with rfl | rfl | rfl | rfl
    · refine i_ix_lst (v := .int 1) (.inl (.inl upd_same)) rfl ?_
      walk_at "go"
      exact k_1 _ (same_upd nt)
    · refine i_ix_lst (v := .int 2) (.inl (.inl upd_same)) rfl ?_
      walk_at "go"
      exact k_1 _ (same_upd nt)
    · refine i_ix_lst (v := .int 4) (.inl (.inl upd_same)) rfl ?_
      walk_at "go"
      exact k_1 _ (same_upd nt)
    · refine i_ix_lst (v := .int 8) (.inl (.inl upd_same)) rfl ?_
      walk_at "go"
      exact k_1 _ (same_upd nt)
  · show (_ : TE) [some (.ref dd.a), some (.int k), some (.int (1 + n)), some (.int (i : Int))] H3 QV
    have hc : SG[i]? = some (SG.getD i 0) := by rw [List.getD_eq_getElem?_getD, List.getElem?_eq_getElem (show i < SG.length from hi)]; rfl
    walk_at "go"
    refine i_ix_str (l := SG) (by decide) (by omega) (by rw [Int.toNat_natCast]; exact hc) ?_
    exact k_1 H3 (Same.refl H3)
  · obtain ⟨m, rfl⟩ := Int.eq_ofNat_of_zero_le n0
    have e1 : (1 : Int) + (m : Int) = ((m + 1 : Nat) : Int) := by omega
    have ek : kept (fun i => decide (((1 + (m : Int)) / PW i) % 2 = 1)) (fun i => S [SG.getD i 0]) 4 = (sgOf ((m + 1 : Nat) : Int)).map fun c => S [c] := by
      unfold kept sgOf
      rw [e1, List.map_map]; rfl
    rw [ek] at d3
    have g := sgOf_ok (m + 1) (by omega) (by omega)
    walk_at "go"
    refine i_join1 (.inl (.inl d3)) (by have := g.2.1; omega) ?_
    exact q _ _ (d2.same s3) g
def p_L_order (K : PySem.W.Frag) : P4 := fun x y z u H Q _ => ∃ Hk dd m nl n1 n2, x = .ref dd.a ∧ y = .int m ∧ z = .ref nl ∧ u = .int 9 ∧ 1 ≤ m ∧ m ≤ 21 ∧ Dr K dd Hk H ∧ Hk nl = some (.lst [S n1, S n2]) ∧ n1 ∈ wordsN ∧ n2 ∈ wordsN ∧
  ∀ a xs es H', Hk a = none → Dr K dd (upd Hk a (.tup xs)) H' → GoodO m xs es → Q (.ref a) H'
theorem ok_L_order (T : Txt K mg C_GlimError C_BadOrder C_BadReader C_NoLine C_Orders) : OK P w K mg base CX0 4 "_law_order" ["_law_draw_here", "_law_many", "_law_names_here", "_law_top"] (sp4  (p_L_order K)) := by
  refine OK.mk (k := 3) T.d_L_order sc_L_order len4 fun f cdv A outer s H vs Q E hr h => ?_
  obtain ⟨x, y, z, u, rfl, h⟩ := h
  refine ⟨_, (pss_cons (ps_set (i := 4) sc_L_order.nd rfl (Or.inl rfl) (pe_f (ok_L_pick (K := K) T) (hr.mono (by decide)) pass0 (pa_cons (pv 0) (pa_cons pe_int pa_nil)))) (pss_cons (ps_if (pt_cmpR op_ltP (pv 4) pe_int (nomark _)) (pss_one (ps_ret (pe_tup (pa_cons (pe_S [119, 97, 105, 116]) (pa_cons (pe_f (ok_L_signs (K := K) T) (hr.mono (by decide)) pass0 (pa_cons (pv 0) pa_nil)) (pa_cons (pe_op (opAdd K) pe_int (pe_f (ok_L_pick (K := K) T) (hr.mono (by decide)) pass0 (pa_cons (pv 0) (pa_cons (pv 3) pa_nil)))) pa_nil)))))) pss_nil) (pss_cons (ps_if (pt_cmpR op_ltP (pv 4) pe_int (nomark _)) (pss_one (ps_ret (pe_tup (pa_cons (pe_S [99, 111, 117, 110, 116]) (pa_cons (pe_f (ok_L_signs (K := K) T) (hr.mono (by decide)) pass0 (pa_cons (pv 0) pa_nil)) (pa_cons (pe_f (ok_L_signs (K := K) T) (hr.mono (by decide)) pass0 (pa_cons (pv 0) pa_nil)) (pa_cons (pe_op (opAdd K) pe_int (pe_f (ok_L_pick (K := K) T) (hr.mono (by decide)) pass0 (pa_cons (pv 0) (pa_cons (pv 3) pa_nil)))) pa_nil))))))) pss_nil) (pss_cons (ps_if (pt_cmpR (opEq K hr.units) (pv 4) pe_int (nomark _)) (pss_one (ps_ret (pe_tup (pa_cons (pe_S [112, 97, 115, 115]) (pa_cons (pe_op (opAdd K) pe_int (pe_f (ok_L_pick (K := K) T) (hr.mono (by decide)) pass0 (pa_cons (pv 0) (pa_cons (pv 3) pa_nil)))) pa_nil))))) pss_nil) (pss_cons (ps_if (pt_cmpR (opEq K hr.units) (pv 4) pe_int (nomark _)) (pss_one (ps_ret (pe_tup (pa_cons (pe_S [109, 111, 114, 101]) (pa_cons (pe_op (opAdd K) pe_int (pe_f (ok_L_pick (K := K) T) (hr.mono (by decide)) pass0 (pa_cons (pv 0) (pa_cons (pv 3) pa_nil)))) (pa_cons (pe_f (ok_L_pick (K := K) T) (hr.mono (by decide)) pass0 (pa_cons (pv 0) (pa_cons (pv 1) pa_nil))) pa_nil)))))) pss_nil) (pss_cons (ps_if (pt_cmpR (opEq K hr.units) (pv 4) pe_int (nomark _)) (pss_one (ps_ret (pe_tup (pa_cons (pe_S [108, 97, 115, 116]) (pa_cons (pe_f (ok_L_signs (K := K) T) (hr.mono (by decide)) pass0 (pa_cons (pv 0) pa_nil)) (pa_cons (pe_f (ok_L_pick (K := K) T) (hr.mono (by decide)) pass0 (pa_cons (pv 0) (pa_cons (pv 1) pa_nil))) pa_nil)))))) pss_nil) (pss_cons (ps_if (pt_cmpR (opEq K hr.units) (pv 4) pe_int (nomark _)) (pss_one (ps_ret (pe_tup (pa_cons (pe_S [103, 111]) (pa_cons (pe_f (ok_L_pick (K := K) T) (hr.mono (by decide)) pass0 (pa_cons (pv 0) (pa_cons (pv 1) pa_nil))) pa_nil))))) pss_nil) (pss_cons (ps_if (pt_cmpR op_ltP (pv 4) pe_int (nomark _)) (pss_one (ps_ret (pe_tup (pa_cons (pe_S [110, 97, 109, 101]) (pa_cons (pe_ix (ixK K) (pv 2) (pe_f (ok_L_pick (K := K) T) (hr.mono (by decide)) pass0 (pa_cons (pv 0) (pa_cons (pe_callB (cLen K) (by rfl) T.b_len (by decide +kernel) (pa_cons (pv 2) pa_nil)) pa_nil))) (fun _ _ => rfl)) pa_nil))))) pss_nil) (pss_one (ps_ret (pe_tup (pa_cons (pe_S [115, 107, 105, 112]) pa_nil)))))))))))), ?_⟩
  show (_ : TS) { nx := fun _ H' => Q .non H', rt := Q } [some x, some y, some z, some u, none] H
  obtain ⟨Hk, dd, m, nl, n1, n2, rfl, rfl, rfl, rfl, m1, m2, dr, hn, w1, w2, q⟩ := h
  have nine : ∀ {n : Int}, Btw n 9 → 0 ≤ n ∧ n ≤ 8 := fun b => ⟨b.1, by have := b.2.1 (by decide); omega⟩
  have inT : ∀ {n : Int}, 0 ≤ n ∧ n ≤ 8 → isIn (.int (1 + n)) 1 9 = true ∧ PartF (.int (1 + n)) := fun h => ⟨by rw [isIn_int, decide_eq_true (by omega), decide_eq_true (by omega)]; rfl, .inr ⟨_, rfl, by omega, by omega⟩⟩
  have inL : ∀ {n : Int}, Btw n m → isIn (.int n) 0 (m - 1) = true ∧ PartF (.int n) := fun {n} b => by
    have h0 := b.1
    have h1 : n < m := by
      by_cases z : 2 ≤ m
      · exact b.2.1 z
      · have := b.2.2 (by omega); omega
    exact ⟨by rw [isIn_int, decide_eq_true h0, decide_eq_true (by omega)]; rfl, .inr ⟨_, rfl, h0, by omega⟩⟩
  have word : ∀ {l : List Nat}, l.length ≤ 10 → (∀ c ∈ l, c < 256) → PartF (dS l) := fun h1 h2 => .inl ⟨_, rfl, h1, h2⟩
  have mk1 : ∀ {a : PyData}, PartF a → ∀ e ∈ [a], PartF e := fun h e he => by rw [List.mem_singleton.mp he]; exact h
  have mkc : ∀ {a : PyData} {r : List PyData}, PartF a → (∀ e ∈ r, PartF e) → ∀ e ∈ a :: r, PartF e := fun h k e he => by
    rcases List.mem_cons.mp he with rfl | he
    · exact h
    · exact k e he
  walk_at "go"
  refine ⟨Hk, dd, 11, rfl, rfl, dr, by decide, fun k H1 d1 bk => ?_⟩
  have k0 := bk.1
  have k11 := bk.2.1 (by decide)
  walk_at "go"
  refine i_dec (fun e0 => ?_) (fun e0 => ?_)
  · walk_at "go"
    refine ⟨Hk, dd, rfl, d1, fun l H2 d2 gl => ?_⟩
    walk_at "go"
    refine ⟨Hk, dd, 9, rfl, rfl, d2, by decide, fun n H3 d3 bn => ?_⟩
    obtain ⟨i1, p1⟩ := inT (nine bn)
    walk_at "go"
    refine i_new (by show 3 ≤ 100000; omega) fun a na => ?_
    refine q a _ [dS cWait, dS l, .int (1 + n)] _ (d3.free na) (d3.new na) ⟨?_, fun B => .cons (.str _ (by decide)) (.cons (gl.at B) (.one (.int _))), mkc (word (by decide) (by decide)) (mkc gl.part (mk1 p1)), by simp, by show 3 ≤ 4; decide⟩
    show (sgsL l && isIn (.int (1 + n)) 1 9) = true
    rw [gl.1, i1]; rfl
  walk_at "go"
  refine i_dec (fun e1 => ?_) (fun e1 => ?_)
  · walk_at "go"
    refine ⟨Hk, dd, rfl, d1, fun l H2 d2 gl => ?_⟩
    walk_at "go"
    refine ⟨Hk, dd, rfl, d2, fun l2 H3 d3 gl2 => ?_⟩
    walk_at "go"
    refine ⟨Hk, dd, 9, rfl, rfl, d3, by decide, fun n H4 d4 bn => ?_⟩
    obtain ⟨i1, p1⟩ := inT (nine bn)
    walk_at "go"
    refine i_new (by show 4 ≤ 100000; omega) fun a na => ?_
    refine q a _ [dS cCount, dS l, dS l2, .int (1 + n)] _ (d4.free na) (d4.new na) ⟨?_, fun B => .cons (.str _ (by decide)) (.cons (gl.at B) (.cons (gl2.at B) (.one (.int _)))), mkc (word (by decide) (by decide)) (mkc gl.part (mkc gl2.part (mk1 p1))), by simp, by show 4 ≤ 4; decide⟩
    show (sgsL l && sgsL l2 && isIn (.int (1 + n)) 1 9) = true
    rw [gl.1, gl2.1, i1]; rfl
  walk_at "go"
  refine i_dec (fun e2 => ?_) (fun e2 => ?_)
  · walk_at "go"
    refine ⟨Hk, dd, 9, rfl, rfl, d1, by decide, fun n H4 d4 bn => ?_⟩
    obtain ⟨i1, p1⟩ := inT (nine bn)
    walk_at "go"
    refine i_new (by show 2 ≤ 100000; omega) fun a na => ?_
    exact q a _ [dS cPass, .int (1 + n)] _ (d4.free na) (d4.new na) ⟨i1, fun B => .cons (.str _ (by decide)) (.one (.int _)), mkc (word (by decide) (by decide)) (mk1 p1), by simp, by show 2 ≤ 4; decide⟩
  walk_at "go"
  refine i_dec (fun e3 => ?_) (fun e3 => ?_)
  · walk_at "go"
    refine ⟨Hk, dd, 9, rfl, rfl, d1, by decide, fun n H4 d4 bn => ?_⟩
    obtain ⟨i1, p1⟩ := inT (nine bn)
    walk_at "go"
    refine ⟨Hk, dd, m, rfl, rfl, d4, by omega, fun n2 H5 d5 bn2 => ?_⟩
    obtain ⟨i2, p2⟩ := inL bn2
    walk_at "go"
    refine i_new (by show 3 ≤ 100000; omega) fun a na => ?_
    refine q a _ [dS cMore, .int (1 + n), .int n2] _ (d5.free na) (d5.new na) ⟨?_, fun B => .cons (.str _ (by decide)) (.cons (.int _) (.one (.int _))), mkc (word (by decide) (by decide)) (mkc p1 (mk1 p2)), by simp, by show 3 ≤ 4; decide⟩
    show (isIn (.int (1 + n)) 1 9 && isIn (.int n2) 0 (m - 1)) = true
    rw [i1, i2]; rfl
  walk_at "go"
  refine i_dec (fun e4 => ?_) (fun e4 => ?_)
  · walk_at "go"
    refine ⟨Hk, dd, rfl, d1, fun l H2 d2 gl => ?_⟩
    walk_at "go"
    refine ⟨Hk, dd, m, rfl, rfl, d2, by omega, fun n2 H5 d5 bn2 => ?_⟩
    obtain ⟨i2, p2⟩ := inL bn2
    walk_at "go"
    refine i_new (by show 3 ≤ 100000; omega) fun a na => ?_
    refine q a _ [dS cLast, dS l, .int n2] _ (d5.free na) (d5.new na) ⟨?_, fun B => .cons (.str _ (by decide)) (.cons (gl.at B) (.one (.int _))), mkc (word (by decide) (by decide)) (mkc gl.part (mk1 p2)), by simp, by show 3 ≤ 4; decide⟩
    show (sgsL l && isIn (.int n2) 0 (m - 1)) = true
    rw [gl.1, i2]; rfl
  walk_at "go"
  refine i_dec (fun e5 => ?_) (fun e5 => ?_)
  · walk_at "go"
    refine ⟨Hk, dd, m, rfl, rfl, d1, by omega, fun n2 H5 d5 bn2 => ?_⟩
    obtain ⟨i2, p2⟩ := inL bn2
    walk_at "go"
    refine i_new (by show 2 ≤ 100000; omega) fun a na => ?_
    exact q a _ [dS cGo, .int n2] _ (d5.free na) (d5.new na) ⟨i2, fun B => .cons (.str _ (by decide)) (.one (.int _)), mkc (word (by decide) (by decide)) (mk1 p2), by simp, by show 2 ≤ 4; decide⟩
  walk_at "go"
  refine i_dec (fun e6 => ?_) (fun e6 => ?_)
  · walk_at "go"
    refine i_len_lst (.inl (.inl (d1.old hn))) ?_
    walk_at "go"
    refine ⟨Hk, dd, 2, rfl, rfl, d1, by decide, fun n H5 d5 bn => ?_⟩
    have key : ∃ w, atI [S n1, S n2] n = some (S w) ∧ w ∈ wordsN := by
      have h0 := bn.1
      have h1 := bn.2.1 (by decide)
      have : n = 0 ∨ n = 1 := by omega
      rcases this with rfl | rfl
      · exact ⟨n1, rfl, w1⟩
      · exact ⟨n2, rfl, w2⟩
    obtain ⟨w', hw, gw⟩ := key
    obtain ⟨g1, g2, g3⟩ := wordsN_ok _ gw
    refine i_ix_lst (.inl (.inl (d5.old hn))) hw ?_
    walk_at "go"
    refine i_new (by show 2 ≤ 100000; omega) fun a na => ?_
    exact q a _ [dS cName, dS w'] _ (d5.free na) (d5.new na) ⟨g1, fun B => .cons (.str _ (by decide)) (.one (.str w' (by omega))), mkc (word (by decide) (by decide)) (mk1 (word (by omega) g3)), by simp, by show 2 ≤ 4; decide⟩
  · walk_at "go"
    refine i_new (by show 1 ≤ 100000; omega) fun a na => ?_
    exact q a _ [dS cSkip] _ (d1.free na) (d1.new na) ⟨rfl, fun B => .one (.str _ (by decide)), mk1 (word (by decide) (by decide)), by simp, by show 1 ≤ 4; decide⟩
end
end K42
namespace K42
open PySem PySem.Spec PyProof.Rows L2 Fg
local macro_rules | `(tactic| walk_at "sq") => `(tactic| first
  | assumption
  | exact .inl (.inl (by assumption))
  | exact .inl (.inl upd_same))
local macro_rules | `(tactic| walk_at "st") => `(tactic| first
  | assumption
  | exact .inl (.inl (by assumption))
  | exact .inl (.inl upd_same))
local macro_rules | `(tactic| walk_at "o") => `(tactic| first
  | omega
  | assumption
  | (simp only [List.length_append, List.length_take, List.length_drop, List.length_cons, List.length_nil, List.length_singleton, List.length_map, List.length_range, Int.toNat_natCast] ; omega))
local macro_rules | `(tactic| walk_at "s") => `(tactic| first
  | (with_reducible refine i_seq ?_)
  | (with_reducible refine i_asg ?_)
  | ((with_reducible refine' i_var ?h1 ?_); (case h1 => rfl))
  | (with_reducible refine i_c ?_)
  | ((with_reducible refine' i_gname' ?h1 ?_); (case h1 => (simp only [List.set_cons_zero, List.set_cons_succ]; rfl)))
  | (with_reducible refine i_op ?_)
  | (with_reducible refine i_ifS ?_)
  | (with_reducible refine i_for ?_)
  | (with_reducible refine i_test ?_)
  | (with_reducible refine i_B ?_)
  | (with_reducible refine i_exbl ?_)
  | (with_reducible refine i_exint ?_)
  | (with_reducible refine i_cb ?_)
  | (with_reducible refine i_nil ?_)
  | (with_reducible refine i_cons ?_)
  | (with_reducible refine i_ret ?_)
  | (with_reducible refine i_sl ?_)
  | (with_reducible refine i_nopart ?_)
  | (with_reducible refine i_part ?_)
  | (with_reducible refine i_add_int ?_)
  | (with_reducible refine i_sub ?_)
  | (with_reducible refine i_lt ?_)
  | ((with_reducible refine' i_mod ?h1 ?_); (case h1 => walk_at "o"))
  | ((with_reducible refine' i_fdiv ?h1 ?_); (case h1 => (refine cdiv_small ?_ ?_ <;> walk_at "o")))
  | ((with_reducible refine' i_sl_to ?h1 ?h2 ?_); (case h1 => walk_at "o"); (case h2 => walk_at "o"))
  | ((with_reducible refine' i_sl_from ?h1 ?h2 ?_); (case h1 => walk_at "o"); (case h2 => walk_at "o"))
  | ((with_reducible refine' i_add_str ?h1 ?_); (case h1 => walk_at "o"))
  | ((with_reducible refine' i_mul_int ?h1 ?_); (case h1 => first | (refine mul_small ?_ ?_ <;> walk_at "o") | (refine mul_smallR ?_ ?_ <;> walk_at "o")))
  | (with_reducible refine i_le ?_)
  | (with_reducible refine i_gt ?_)
  | (with_reducible refine i_ge ?_)
  | (with_reducible refine i_eq_int ?_)
  | (with_reducible refine i_eq_str ?_)
  | (with_reducible refine i_ne_int ?_)
  | (with_reducible refine i_ne_str ?_)
  | (with_reducible refine i_eq_bl ?_)
  | (with_reducible refine i_ne_bl ?_)
  | (with_reducible refine i_in_sg ?_)
  | (with_reducible refine i_notIn_sg ?_)
  | (with_reducible refine i_call ?_)
  | (with_reducible refine i_callS ?_)
  | (with_reducible refine i_sp1 ?_)
  | (with_reducible refine i_sp2 ?_)
  | (with_reducible refine i_sp3 ?_)
  | (with_reducible refine i_sp4 ?_)
  | (with_reducible refine i_sp1' ?_)
  | (with_reducible refine i_sp2' ?_)
  | (with_reducible refine i_sp3' ?_)
  | ((with_reducible refine' i_ix_lst ?h1 ?h2 ?_); (case h1 => walk_at "sq"); (case h2 => first | exact atI_nat rfl | rfl))
  | ((with_reducible refine' i_ix_tup ?h1 ?h2 ?_); (case h1 => walk_at "st"); (case h2 => first | exact atI_nat rfl | rfl))
  | (with_reducible refine i_gsub ?_)
  | (with_reducible refine i_par ?_)
  | (with_reducible refine i_lstRg1 ?_)
  | (with_reducible refine i_app ?_)
  | (with_reducible refine i_par2 ?_)
  | ((with_reducible refine' i_aug ?h1 ?_); (case h1 => rfl))
  | (with_reducible refine i_ipI ?_)
  | ((with_reducible refine' i_gtup2 ?h1 ?_); (case h1 => walk_at "st"))
  | (with_reducible refine i_int_bl ?_)
  | (with_reducible refine i_raise ?_)
  | (with_reducible refine i_mkE ?_)
  | (with_reducible refine i_ex1 ?_)
  | (with_reducible refine i_and ?_)
  | (with_reducible refine i_or ?_)
  | (with_reducible refine i_not ?_)
  | (with_reducible refine i_tt ?_)
  | (with_reducible refine i_ff ?_)
  | (with_reducible refine i_nott ?_)
  | (with_reducible refine i_notf ?_)
  | (with_reducible refine i_andV ?_)
  | (with_reducible refine i_orV ?_)
  | (with_reducible refine i_notV ?_)
  | (with_reducible refine i_ifE ?_)
  | (with_reducible refine i_tup ?_)
  | (with_reducible refine i_lst ?_)
  | (with_reducible refine i_un ?_)
  | (with_reducible refine i_neg ?_)
  | (with_reducible refine i_chain ?_)
  | (with_reducible refine i_next ?_)
  | (with_reducible refine i_retN ?_)
  | (with_reducible refine i_drop ?_)
  | (with_reducible refine i_int_int ?_)
  | (with_reducible refine i_abs ?_)
  | (with_reducible refine i_m1c ?_)
  | (with_reducible refine i_is_non ?_)
  | (with_reducible refine i_is_int ?_)
  | (with_reducible refine i_is_bl ?_)
  | (with_reducible refine i_isn_bl ?_)
  | (with_reducible refine i_is_str ?_)
  | (with_reducible refine i_is_ref ?_)
  | (with_reducible refine i_isn_non ?_)
  | (with_reducible refine i_isn_int ?_)
  | (with_reducible refine i_isn_str ?_)
  | (with_reducible refine i_isn_ref ?_)
  | (with_reducible refine i_len_str ?h1 ?_; (case h1 => walk_at "o"))
  | (with_reducible refine i_callD ?_)
  | (with_reducible refine i_spD2 ?_)
  | (with_reducible refine i_spM1 ?_)
  | (with_reducible refine i_spM2 ?_)
  | (with_reducible refine i_spM3 ?_)
  | (with_reducible refine i_spM4 ?_)
  | (with_reducible refine i_spM3d ?_)
  | (with_reducible refine i_tfld ?_)
  | (with_reducible refine i_sfld ?_)
  | (with_reducible refine i_meth ?_)
  | (with_reducible refine i_make ?_)
  | (with_reducible refine i_spl ?_)
  | (with_reducible refine i_mkE2 ?_)
  | (with_reducible refine i_ex2 ?_)
  | (with_reducible refine i_dget ?_)
  | (with_reducible refine i_tru ?_)
  | (with_reducible refine i_dput ?_)
  | (with_reducible refine i_dnotin ?_)
  | (with_reducible refine i_din ?_)
  | (with_reducible refine i_isi_int_int ?_) | (with_reducible refine i_isi_int_bool ?_) | (with_reducible refine i_isi_int_str ?_) | (with_reducible refine i_isi_int_tuple ?_) | (with_reducible refine i_isi_int_list ?_)
  | (with_reducible refine i_isi_bl_int ?_) | (with_reducible refine i_isi_bl_bool ?_) | (with_reducible refine i_isi_bl_str ?_) | (with_reducible refine i_isi_bl_tuple ?_) | (with_reducible refine i_isi_bl_list ?_)
  | (with_reducible refine i_isi_str_int ?_) | (with_reducible refine i_isi_str_bool ?_) | (with_reducible refine i_isi_str_str ?_) | (with_reducible refine i_isi_str_tuple ?_) | (with_reducible refine i_isi_str_list ?_)
  | (with_reducible refine i_isi_non_int ?_) | (with_reducible refine i_isi_non_bool ?_) | (with_reducible refine i_isi_non_str ?_) | (with_reducible refine i_isi_non_tuple ?_) | (with_reducible refine i_isi_non_list ?_))
local macro_rules | `(tactic| walk_at "go") => `(tactic| (repeat' (walk_at "s")))
local macro_rules | `(tactic| walk_at "n") => `(tactic| simp only [wipe, List.map_cons, List.map_nil, List.set_cons_zero, List.set_cons_succ])
/-! ### odd things, odd lines -/
structure PartD (e : PyData) : Prop where
  lay : e.canLay0 = true
  dep : e.depth ≤ 1
  rp : Rp 30 e
def partB (e : PyData) : Bool := e.canLay0 && (decide (e.depth ≤ 1) && rpB 30 e)
theorem part_of {e : PyData} (h : partB e = true) : PartD e := by
  unfold partB at h
  rw [Bool.and_eq_true, Bool.and_eq_true, decide_eq_true_eq] at h
  exact ⟨h.1, h.2.1, rp_of h.2.2⟩
theorem parts_of {es : List PyData} (h : es.all partB = true) : ∀ e ∈ es, PartD e := fun e he => part_of (List.all_eq_true.mp h e he)
theorem PartF.part {e : PyData} (h : PartF e) : PartD e := by
  rcases h with ⟨l, rfl, hl, hc⟩ | ⟨i, rfl, h0, h1⟩
  · exact ⟨by simp only [PyData.canLay0]; exact strOk_small fun c hm => Nat.lt_trans (hc c hm) (by decide), Nat.zero_le _, Rp.str (by omega) fun c hm => Nat.lt_trans (hc c hm) (by decide)⟩
  · refine ⟨rfl, Nat.zero_le _, Rp.int ?_⟩
    have : i.natAbs < 101 := by omega
    exact Nat.lt_trans this (by decide)
/-- a scalar, as a datum -/
def dV : V → PyData
  | .str x => .str x
  | .non => .none
  | .bl b => .bool b
  | .int i => .int i
  | _ => .none
def isPV : V → Bool
  | .str x => decide (x.cps.toList.length ≤ 30) && x.cps.toList.all fun c => decide (c < 256)
  | .non | .bl _ => true
  | .int i => decide (i.natAbs < 10 ^ 40)
  | _ => false
theorem pv_one {v : V} (h : isPV v = true) : (∀ B, At B v (dV v)) ∧ PartD (dV v) := by
  cases v with
  | str x =>
    have h' : (decide (x.cps.toList.length ≤ 30) && x.cps.toList.all fun c => decide (c < 256)) = true := h
    rw [Bool.and_eq_true, decide_eq_true_eq, List.all_eq_true] at h'
    have hc : ∀ c ∈ x.cps.toList, c < 256 := fun c hm => of_decide_eq_true (h'.2 c hm)
    refine ⟨fun B => .str x.cps.toList (by omega), ?_, Nat.zero_le _, Rp.str (l := x.cps.toList) h'.1 fun c hm => Nat.lt_trans (hc c hm) (by decide)⟩
    show (PyData.str x).canLay0 = true
    simp only [PyData.canLay0]
    exact strOk_small (l := x.cps.toList) fun c hm => Nat.lt_trans (hc c hm) (by decide)
  | non => exact ⟨fun B => .non, rfl, Nat.zero_le _, Rp.non⟩
  | bl b => exact ⟨fun B => .bl b, rfl, Nat.zero_le _, Rp.bool b⟩
  | int i => exact ⟨fun B => .int i, rfl, Nat.zero_le _, Rp.int (of_decide_eq_true h)⟩
  | _ => cases h
theorem pv_all : ∀ {xs : List V}, xs.all isPV = true → (∀ B, AtAll B xs (xs.map dV)) ∧ ∀ e ∈ xs.map dV, PartD e
  | [], _ => ⟨fun _ => .nil, fun e h => absurd h (by simp)⟩
  | v :: r, h => by
    rw [List.all_cons, Bool.and_eq_true] at h
    obtain ⟨a, b⟩ := pv_one h.1
    obtain ⟨c, d⟩ := pv_all h.2
    refine ⟨fun B => .cons (a B) (c B), fun e he => ?_⟩
    rcases List.mem_cons.mp he with rfl | he
    · exact b
    · exact d e he
theorem pick_in {xs : List V} {n : Int} (b : Btw n (xs.length : Int)) (h2 : 2 ≤ xs.length) : ∃ v, atI xs n = some v ∧ xs[n.toNat]? = some v := by
  have n0 := b.1
  have n1 := b.2.1 (by omega)
  have hn : n.toNat < xs.length := by omega
  exact ⟨xs[n.toNat], atI_int n0 (List.getElem?_eq_getElem hn), List.getElem?_eq_getElem hn⟩
theorem Dr.step {K : PySem.W.Frag} {d : Dd} {H0 H : Hp} {q : Addr} (h : Dr K d H0 H) (o : HO) (n : H q = none) : ∃ H1, Same H0 H1 ∧ H1 q = some o ∧ Dr K d H1 (upd H q o) := ⟨_, same_upd (h.free n), upd_same, h.new n⟩
theorem parts_app {ds es : List PyData} (h : ∀ e ∈ ds, PartD e) (k : ∀ e ∈ es, PartD e) : ∀ e ∈ ds ++ es, PartD e := fun e he => (List.mem_append.mp he).elim (h e) (k e)
/-- what can stand for a line: a list of at most n parts, or no sequence -/
def LineD (n : Nat) (d : PyData) : Prop := (∃ ds, d = .list ds ∧ ds.length ≤ n ∧ ∀ e ∈ ds, PartD e) ∨ (isSeqD d = false ∧ PartD d)
theorem LineD.mono {n m : Nat} {d : PyData} (h : LineD n d) (k : n ≤ m) : LineD m d := by
  rcases h with ⟨ds, e, l, p⟩ | h
  · exact .inl ⟨ds, e, by omega, p⟩
  · exact .inr h
/-! ### the draws, a frame that stays, and what is known beside it -/
def joinH (A f : Hp) : Hp := fun b => match A b with
  | some o => some o
  | none => f b
section
variable {K : PySem.W.Frag} {d : Dd} {f A A1 H H1 : Hp} {q : Addr} {o o' : HO}
theorem joinH_some (h : A q = some o) : joinH A f q = some o := by unfold joinH; rw [h]
theorem joinH_none (h : A q = none) : joinH A f q = f q := by unfold joinH; rw [h]
theorem joinH_upd : joinH (upd A q o) f = upd (joinH A f) q o := by
  funext b
  by_cases h : b = q
  · rw [h, upd_same]; exact joinH_some upd_same
  · rw [upd_ne h]
    unfold joinH
    rw [upd_ne h]
def D2 (K : PySem.W.Frag) (d : Dd) (f A H : Hp) : Prop := Same A H ∧ Dr K d (joinH A f) H ∧ ∀ b, f b ≠ none → A b = none
theorem D2.old (h : D2 K d f A H) (e : A q = some o) : H q = some o := h.1 _ _ e
theorem D2.free (h : D2 K d f A H) (n : H q = none) : A q = none := h.1.free n
theorem D2.fr (h : D2 K d f A H) (e : f q = some o) : H q = some o := h.2.1.1 _ _ (by rw [joinH_none (h.2.2 q (by rw [e]; simp))]; exact e)
theorem D2.same (h : D2 K d f A H) (s : Same H H1) : D2 K d f A H1 := ⟨h.1.trans s, h.2.1.same s, h.2.2⟩
theorem D2.new (h : D2 K d f A H) (n : H q = none) : D2 K d f (upd A q o) (upd H q o) := by
  have e := h.2.1.new (o := o) n
  rw [← joinH_upd] at e
  refine ⟨fun b u hb => ?_, e, fun b hb => ?_⟩
  · by_cases hq : b = q
    · rw [hq, upd_same] at hb; rw [hq, upd_same]; exact hb
    · rw [upd_ne hq] at hb; rw [upd_ne hq]; exact h.1 _ _ hb
  · have hq : b ≠ q := fun z => by
      cases ef : f b with
      | none => exact hb ef
      | some u =>
        have := h.fr ef
        rw [z, n] at this
        cases this
    rw [upd_ne hq]
    exact h.2.2 b hb
theorem D2.step (h : D2 K d f A H) (o : HO) (n : H q = none) : ∃ A1, Same A A1 ∧ A1 q = some o ∧ D2 K d f A1 (upd H q o) := ⟨_, same_upd (h.free n), upd_same, h.new n⟩
theorem D2.cells (h : D2 K d f A H) : SqL K (joinH A f) d.c (d.ns.map V.int) := h.2.1.cells
theorem D2.less (h : D2 K d f (upd A q o) H) (hc : SqL K (joinH A f) d.c (d.ns.map V.int)) (n : A q = none) : D2 K d f A H := by
  have e := h.2.1
  rw [joinH_upd] at e
  have nf : f q = none := by
    cases ef : f q with
    | none => rfl
    | some u =>
      have := h.2.2 q (by rw [ef]; simp)
      rw [upd_same] at this
      cases this
  refine ⟨(same_upd n).trans h.1, e.less hc (by rw [joinH_none n]; exact nf), fun b hb => ?_⟩
  have := h.2.2 b hb
  rwa [upd_ne (fun z => by rw [z, nf] at hb; exact hb rfl)] at this
theorem pick2 {many : Int} {Q : VK} {E : XK} (h : D2 K d f A H) (hm : many ≤ 10000000000000000000000000000000000000000) (q : ∀ (n : Int) H', D2 K d f A H' → Btw n many → Q (.int n) H') : p_L_pick K (.ref d.a) (.int many) H Q E :=
  ⟨joinH A f, d, many, rfl, rfl, h.2.1, hm, fun n H' e b => q n H' ⟨fun c u hc => e.1 _ _ (joinH_some hc), e, h.2.2⟩ b⟩
/-- one object -/
def oneH (q : Addr) (o : HO) : Hp := fun b => if b = q then some o else none
theorem joinH_one (n : A q = none) : joinH A (oneH q o) = upd A q o := by
  funext b
  by_cases h : b = q
  · rw [h, upd_same, joinH_none n]; exact if_pos rfl
  · rw [upd_ne h]
    cases e : A b with
    | some u => exact joinH_some e
    | none => rw [joinH_none e]; exact if_neg h
theorem D2.of (h : Dr K d (upd A q o) H) (n : A q = none) : D2 K d (oneH q o) A H :=
  ⟨(same_upd n).trans h.1, by rw [joinH_one n]; exact h, fun b hb => by
    by_cases e : b = q
    · rw [e]; exact n
    · exact absurd (if_neg e) hb⟩
theorem D2.to (h : D2 K d (oneH q o) A H) : A q = none ∧ Dr K d (upd A q o) H := by
  have n : A q = none := h.2.2 q (by rw [show oneH q o q = some o from if_pos rfl]; simp)
  exact ⟨n, by rw [← joinH_one n]; exact h.2.1⟩
end
section
variable {P : Program} {w : World} {K : PySem.W.Frag} {mg : Str → Option Value} {base : Heap} {C_GlimError C_BadOrder C_BadReader C_NoLine C_Orders : Addr}
def p_L_odd (K : PySem.W.Frag) : P3 := fun x y z H Q _ => ∃ Hk dd fr d m, x = .ref dd.a ∧ At Hk y d ∧ z = .int m ∧ 0 ≤ m ∧ m ≤ 100 ∧ D2 K dd fr Hk H ∧ ∀ Hk' H' v e, Same Hk Hk' → D2 K dd fr Hk' H' → At Hk' v e → PartD e → Q v H'
theorem ok_L_odd (T : Txt K mg C_GlimError C_BadOrder C_BadReader C_NoLine C_Orders) : OK P w K mg base CX0 3 "_law_odd" ["_law_draw_here", "_law_thing", "_law_many"] (sp3  (p_L_odd K)) := by
  refine OK.mk (k := 2) T.d_L_odd sc_L_odd len3 fun f cdv A outer s H vs Q E hr h => ?_
  obtain ⟨x, y, z, rfl, h⟩ := h
  refine ⟨_, (pss_cons (ps_set (i := 3) sc_L_odd.nd rfl (Or.inl rfl) (pe_lst (pa_cons (pe_S []) (pa_cons (pe_S [119, 103]) (pa_cons (pe_S [114, 114]) (pa_cons (pe_S [119, 46]) (pa_cons (pe_S [103, 120]) (pa_cons (pe_S [46, 103, 114, 119]) (pa_cons (pe_S [65, 110, 110, 97]) (pa_cons (pe_S [97, 45, 98]) (pa_cons (pe_S [97, 98, 99, 100, 101, 102, 103, 104]) (pa_cons (pe_S [97, 98, 99, 100, 101, 102, 103, 104, 105]) pa_nil)))))))))))) (Evl.pss_cut (ps_if (pt_val (pe_f (ok_L_is_int (K := K) T) (hr.mono (by decide)) pass0 (pa_cons (pv 1) pa_nil))) (pss_one (ps_set (i := 3) sc_L_odd.nd rfl (Or.inl rfl) (pe_lst (pa_cons pe_int (pa_cons pe_int (pa_cons (pe_un un_neg pe_int) (pa_cons pe_bl (pa_cons (pv 2) (pa_cons (pv 2) (pa_cons (pe_op op_subP (pv 2) pe_int) (pa_cons pe_int (pa_cons (pe_S [49]) pa_nil)))))))))))) pss_nil) (pss_cons (ps_if (pt_cmpR op_gtP (pe_f (ok_L_pick (K := K) T) (hr.mono (by decide)) pass0 (pa_cons (pv 0) (pa_cons pe_int pa_nil))) pe_int (nomark _)) (pss_one (ps_ret (pe_ix (ixK K) (pv 3) (pe_f (ok_L_pick (K := K) T) (hr.mono (by decide)) pass0 (pa_cons (pv 0) (pa_cons (pe_callB (cLen K) (by rfl) T.b_len (by decide +kernel) (pa_cons (pv 3) pa_nil)) pa_nil))) (fun _ _ => rfl)))) pss_nil) (pss_cons (ps_set (i := 4) sc_L_odd.nd rfl (Or.inl rfl) (pe_lst (pa_cons pe_non (pa_cons pe_bl (pa_cons pe_bl (pa_cons pe_int (pa_cons pe_int (pa_cons pe_int (pa_cons pe_int (pa_cons (pe_un un_neg pe_int) (pa_cons (pv 2) (pa_cons pe_int (pa_cons (pe_op op_powP pe_int pe_int) (pa_cons (pe_S []) (pa_cons (pe_S [46]) (pa_cons (pe_S [103, 119]) (pa_cons (pe_S [119, 103]) (pa_cons (pe_S [46, 103, 114, 119]) (pa_cons (pe_S [120]) (pa_cons (pe_S [119, 32]) pa_nil)))))))))))))))))))) (pss_cons (ps_set (i := 4) sc_L_odd.nd rfl (Or.inl rfl) (pe_op (opAdd K) (pv 4) (pe_lst (pa_cons (pe_S [97, 110, 110, 97]) (pa_cons (pe_S [103, 111]) (pa_cons (pe_S [119, 97, 105, 116]) (pa_cons (pe_S [115, 107, 105, 112]) (pa_cons (pe_S [55]) (pa_cons (pe_lst pa_nil) (pa_cons (pe_lst (pa_cons (pe_S [119]) pa_nil)) (pa_cons (pe_lst (pa_cons (pe_S [115, 107, 105, 112]) pa_nil)) pa_nil))))))))))) (pss_one (ps_ret (pe_ix (ixK K) (pv 4) (pe_f (ok_L_pick (K := K) T) (hr.mono (by decide)) pass0 (pa_cons (pv 0) (pa_cons (pe_callB (cLen K) (by rfl) T.b_len (by decide +kernel) (pa_cons (pv 4) pa_nil)) pa_nil))) (fun _ _ => rfl))))))))), ?_⟩
  show (_ : TS) { nx := fun _ H' => Q .non H', rt := Q } [some x, some y, some z, none, none] H
  obtain ⟨Hk, dd, fr, d, m, rfl, hy, rfl, m0, m1, dr, q⟩ := h
  have pm : isPV (.int m) = true := decide_eq_true (Nat.lt_trans (show m.natAbs < 101 by omega) (by decide))
  have pm1 : isPV (.int (m - 1)) = true := decide_eq_true (Nat.lt_trans (show (m - 1).natAbs < 101 by omega) (by decide))
  walk_at "go"
  refine i_new (by show 10 ≤ 100000; omega) fun l1 n1 => ?_
  walk_at "go"
  refine i_cut (fun σ G => ∃ nl xs, σ = [some (.ref dd.a), some y, some (.int m), some (.ref nl), none] ∧ Hk nl = none ∧ D2 K dd fr (upd Hk nl (.lst xs)) G ∧ xs.all isPV = true ∧ 2 ≤ xs.length ∧ xs.length ≤ 20) ?_ ?_
  · walk_at "go"
    refine ⟨d, (hy.same dr.1).same (same_upd n1), ?_⟩
    refine ⟨_, rfl, ?_⟩
    cases ei : isI d with
    | true =>
      walk_at "go"
      refine i_new (by show 9 ≤ 100000; omega) fun l2 n2 => ?_
      have d1 := dr.same (same_upd (o := .lst [S [], S [119, 103], S [114, 114], S [119, 46], S [103, 120], S [46, 103, 114, 119], S [65, 110, 110, 97], S [97, 45, 98], S [97, 98, 99, 100, 101, 102, 103, 104], S [97, 98, 99, 100, 101, 102, 103, 104, 105]]) n1)
      walk_at "go"
      refine ⟨l2, _, rfl, d1.free n2, d1.new n2, List.all_eq_true.mpr fun v hv => ?_, by show 2 ≤ 9; decide, by show 9 ≤ 20; decide⟩
      simp only [List.mem_cons, List.not_mem_nil, or_false] at hv
      rcases hv with rfl | rfl | rfl | rfl | rfl | rfl | rfl | rfl | rfl <;> first
        | exact pm
        | exact pm1
        | decide +kernel
    | false =>
      walk_at "go"
      exact ⟨l1, _, rfl, dr.free n1, dr.new n1, by decide +kernel, by show 2 ≤ 10; decide, by show 10 ≤ 20; decide⟩
  rintro σ G ⟨nl, xs, rfl, kn, d1, hp, h2, h20⟩
  walk_at "go"
  refine pick2 d1 (by decide) fun n G1 d2 bn => ?_
  walk_at "go"
  refine i_dec (fun e0 => ?_) (fun e0 => ?_)
  · walk_at "go"
    refine i_len_lst (.inl (.inl (d2.old upd_same))) ?_
    walk_at "go"
    refine pick2 d2 (by omega) fun n2 G2 d3 bn2 => ?_
    obtain ⟨v, hv, hv'⟩ := pick_in bn2 h2
    obtain ⟨a, b⟩ := pv_one (List.all_eq_true.mp hp v (List.mem_of_getElem? hv'))
    refine i_ix_lst (.inl (.inl (d3.old upd_same))) hv ?_
    exact q _ _ v _ (same_upd kn) d3 (a _) b
  have d2 := d2.less dr.cells kn
  clear d1 hp h2 h20
  walk_at "go"
  refine i_pow (by decide +kernel) ?_
  walk_at "go"
  refine i_new (by show 18 ≤ 100000; omega) fun l3 n3 => ?_
  have pm18 : ([.non, .bl true, .bl false, .int 0, .int 1, .int 9, .int 10, .int (-1), .int m, .int 20, .int (10 ^ (30 : Int).toNat), S [], S [46], S [103, 119], S [119, 103], S [46, 103, 114, 119], S [120], S [119, 32]] : List V).all isPV = true := by
    refine List.all_eq_true.mpr fun v hv => ?_
    simp only [List.mem_cons, List.not_mem_nil, or_false] at hv
    rcases hv with rfl | rfl | rfl | rfl | rfl | rfl | rfl | rfl | rfl | rfl | rfl | rfl | rfl | rfl | rfl | rfl | rfl | rfl <;> first
      | exact pm
      | decide +kernel
  have len18 : ([.non, .bl true, .bl false, .int 0, .int 1, .int 9, .int 10, .int (-1), .int m, .int 20, .int (10 ^ (30 : Int).toNat), S [], S [46], S [103, 119], S [119, 103], S [46, 103, 114, 119], S [120], S [119, 32]] : List V).length = 18 := rfl
  generalize ([.non, .bl true, .bl false, .int 0, .int 1, .int 9, .int 10, .int (-1), .int m, .int 20, .int (10 ^ (30 : Int).toNat), S [], S [46], S [103, 119], S [119, 103], S [46, 103, 114, 119], S [120], S [119, 32]] : List V) = xs1 at *
  obtain ⟨K3, s3, g3, d3⟩ := d2.step (.lst xs1) n3
  have e3 : (upd G1 l3 (.lst xs1)) l3 = some (.lst xs1) := upd_same
  generalize upd G1 l3 (.lst xs1) = G3 at *
  walk_at "go"
  refine i_new (by show 0 ≤ 100000; omega) fun p1 np1 => ?_
  obtain ⟨K4, s4, g4, d4⟩ := d3.step (.lst []) np1
  generalize upd G3 p1 (.lst []) = G4 at *
  walk_at "go"
  refine i_new (by show 1 ≤ 100000; omega) fun p2 np2 => ?_
  obtain ⟨K5, s5, g5, d5⟩ := d4.step (.lst [S [119]]) np2
  generalize upd G4 p2 (.lst [S [119]]) = G5 at *
  walk_at "go"
  refine i_new (by show 1 ≤ 100000; omega) fun p3 np3 => ?_
  obtain ⟨K6, s6, g6, d6⟩ := d5.step (.lst [S cSkip]) np3
  generalize upd G5 p3 (.lst [S cSkip]) = G6 at *
  walk_at "go"
  refine i_new (by show 8 ≤ 100000; omega) fun l4 n4 => ?_
  obtain ⟨K7, s7, g7, d7⟩ := d6.step (.lst [S [97, 110, 110, 97], S cGo, S cWait, S cSkip, S [55], .ref p1, .ref p2, .ref p3]) n4
  have e7 := d7.old g7
  generalize upd G6 l4 (.lst [S [97, 110, 110, 97], S cGo, S cWait, S cSkip, S [55], .ref p1, .ref p2, .ref p3]) = G7 at *
  have hl3 := d7.old (s7 _ _ (s6 _ _ (s5 _ _ (s4 _ _ g3))))
  refine i_catL hl3 e7 (by rw [len18]; show 18 + 8 ≤ 100000; decide) fun l5 n5 => ?_
  obtain ⟨a1, b1⟩ := pv_all pm18
  have al2 : AtAll K7 [S [97, 110, 110, 97], S cGo, S cWait, S cSkip, S [55], .ref p1, .ref p2, .ref p3] [dS [97, 110, 110, 97], dS cGo, dS cWait, dS cSkip, dS [55], .list [], .list [dS [119]], .list [dS cSkip]] :=
    .cons (.str _ (by decide)) (.cons (.str _ (by decide)) (.cons (.str _ (by decide)) (.cons (.str _ (by decide)) (.cons (.str _ (by decide))
      (.cons (At.mkLst (s7 _ _ (s6 _ _ (s5 _ _ g4))) .nil (by decide)) (.cons (At.mkLst (s7 _ _ (s6 _ _ g5)) (.one (.str _ (by decide))) (by decide)) (.one (At.mkLst (s7 _ _ g6) (.one (.str _ (by decide))) (by decide)))))))))
  have b2 : ∀ e ∈ [dS [97, 110, 110, 97], dS cGo, dS cWait, dS cSkip, dS [55], .list [], .list [dS [119]], .list [dS cSkip]], PartD e := parts_of (by decide +kernel)
  have al := (a1 K7).app al2
  have pt := parts_app b1 b2
  have lt : (xs1 ++ [S [97, 110, 110, 97], S cGo, S cWait, S cSkip, S [55], .ref p1, .ref p2, .ref p3]).length = 26 := by rw [List.length_append, len18]; rfl
  generalize xs1 ++ [S [97, 110, 110, 97], S cGo, S cWait, S cSkip, S [55], .ref p1, .ref p2, .ref p3] = xs at *
  generalize xs1.map dV ++ [dS [97, 110, 110, 97], dS cGo, dS cWait, dS cSkip, dS [55], .list [], .list [dS [119]], .list [dS cSkip]] = es at *
  obtain ⟨K8, s8, g8, d8⟩ := d7.step (.lst xs) n5
  walk_at "go"
  refine i_len_lst (.inl (.inl upd_same)) ?_
  walk_at "go"
  refine pick2 d8 (by omega) fun n2 G9 d9 bn2 => ?_
  obtain ⟨v, hv, hv'⟩ := pick_in bn2 (by omega)
  obtain ⟨e, he, ae⟩ := al.get hv'
  refine i_ix_lst (.inl (.inl (d9.old g8))) hv ?_
  exact q K8 _ v e (((((s3.trans s4).trans s5).trans s6).trans s7).trans s8) d9 (ae.same s8) (pt e (List.mem_of_getElem? he))
def p_L_odd_line (K : PySem.W.Frag) : P1 := fun x H Q _ => ∃ Hk dd fr, x = .ref dd.a ∧ D2 K dd fr Hk H ∧ ∀ Hk' H' v e, Same Hk Hk' → D2 K dd fr Hk' H' → At Hk' v e → LineD 3 e → Q v H'
theorem lines_of {es : List PyData} (h : (es.all fun e => match e with | .list ds => decide (ds.length ≤ 3) && ds.all partB | d => !isSeqD d && partB d) = true) : ∀ e ∈ es, LineD 3 e := fun e he => by
  have := List.all_eq_true.mp h e he
  cases e with
  | list ds =>
    have h' : (decide (ds.length ≤ 3) && ds.all partB) = true := this
    rw [Bool.and_eq_true, decide_eq_true_eq] at h'
    exact .inl ⟨ds, rfl, h'.1, parts_of h'.2⟩
  | tuple ds => cases this
  | none => exact .inr ⟨rfl, part_of this⟩
  | bool b => exact .inr ⟨rfl, part_of this⟩
  | int i => exact .inr ⟨rfl, part_of this⟩
  | str x => exact .inr ⟨rfl, part_of this⟩
  | dict k => exact .inr ⟨rfl, part_of this⟩
theorem ok_L_odd_line (T : Txt K mg C_GlimError C_BadOrder C_BadReader C_NoLine C_Orders) : OK P w K mg base CX0 3 "_law_odd_line" ["_law_draw_here"] (sp1  (p_L_odd_line K)) := by
  refine OK.mk (k := 2) T.d_L_odd_line sc_L_odd_line len1 fun f cdv A outer s H vs Q E hr h => ?_
  obtain ⟨x, rfl, h⟩ := h
  refine ⟨_, (pss_cons (ps_set (i := 1) sc_L_odd_line.nd rfl (Or.inl rfl) (pe_lst (pa_cons pe_non (pa_cons pe_int (pa_cons pe_bl (pa_cons (pe_S [115, 107, 105, 112]) (pa_cons (pe_S [103, 111, 32, 48]) (pa_cons (pe_lst pa_nil) (pa_cons (pe_lst (pa_cons (pe_S [115, 107, 105, 112]) (pa_cons (pe_S [115, 107, 105, 112]) pa_nil))) (pa_cons (pe_lst (pa_cons (pe_lst (pa_cons (pe_S [115, 107, 105, 112]) pa_nil)) pa_nil)) (pa_cons (pe_lst (pa_cons (pe_S [110, 97, 109, 101]) pa_nil)) (pa_cons (pe_lst (pa_cons (pe_S [83, 107, 105, 112]) pa_nil)) (pa_cons (pe_lst (pa_cons (pe_S [104, 111, 108, 100]) (pa_cons pe_int pa_nil))) (pa_cons (pe_lst (pa_cons pe_int (pa_cons pe_int pa_nil))) pa_nil)))))))))))))) (pss_cons (ps_set (i := 1) sc_L_odd_line.nd rfl (Or.inl rfl) (pe_op (opAdd K) (pv 1) (pe_lst (pa_cons (pe_lst (pa_cons pe_non pa_nil)) (pa_cons (pe_lst (pa_cons (pe_S [103, 111]) pa_nil)) (pa_cons (pe_lst (pa_cons (pe_S [103, 111]) (pa_cons (pe_S [48]) pa_nil))) (pa_cons (pe_lst (pa_cons (pe_S [119, 97, 105, 116]) (pa_cons pe_int (pa_cons (pe_S [46]) pa_nil)))) (pa_cons (pe_lst (pa_cons (pe_S [112, 97, 115, 115]) (pa_cons pe_int (pa_cons pe_int pa_nil)))) (pa_cons (pe_lst (pa_cons (pe_S [99, 111, 117, 110, 116]) (pa_cons (pe_S [46]) (pa_cons pe_int pa_nil)))) (pa_cons (pe_lst (pa_cons (pe_S [110, 97, 109, 101]) (pa_cons (pe_S []) pa_nil))) pa_nil)))))))))) (pss_one (ps_ret (pe_ix (ixK K) (pv 1) (pe_f (ok_L_pick (K := K) T) (hr.mono (by decide)) pass0 (pa_cons (pv 0) (pa_cons (pe_callB (cLen K) (by rfl) T.b_len (by decide +kernel) (pa_cons (pv 1) pa_nil)) pa_nil))) (fun _ _ => rfl)))))), ?_⟩
  show (_ : TS) { nx := fun _ H' => Q .non H', rt := Q } [some x, none] H
  obtain ⟨Hk, dd, fr, rfl, dr, q⟩ := h
  walk_at "go"
  refine i_new (by show 0 ≤ 100000; omega) fun p1 np1 => ?_
  obtain ⟨K1, s1, g1, d1⟩ := dr.step (.lst []) np1
  generalize upd H p1 (.lst []) = G1 at *
  walk_at "go"
  refine i_new (by show 2 ≤ 100000; omega) fun p2 np2 => ?_
  obtain ⟨K2, s2, g2, d2⟩ := d1.step (.lst [S cSkip, S cSkip]) np2
  generalize upd G1 p2 (.lst [S cSkip, S cSkip]) = G2 at *
  walk_at "go"
  refine i_new (by show 1 ≤ 100000; omega) fun p3 np3 => ?_
  obtain ⟨K3, s3, g3, d3⟩ := d2.step (.lst [S cSkip]) np3
  generalize upd G2 p3 (.lst [S cSkip]) = G3 at *
  walk_at "go"
  refine i_new (by show 1 ≤ 100000; omega) fun p4 np4 => ?_
  obtain ⟨K4, s4, g4, d4⟩ := d3.step (.lst [.ref p3]) np4
  generalize upd G3 p4 (.lst [.ref p3]) = G4 at *
  walk_at "go"
  refine i_new (by show 1 ≤ 100000; omega) fun p5 np5 => ?_
  obtain ⟨K5, s5, g5, d5⟩ := d4.step (.lst [S cName]) np5
  generalize upd G4 p5 (.lst [S cName]) = G5 at *
  walk_at "go"
  refine i_new (by show 1 ≤ 100000; omega) fun p6 np6 => ?_
  obtain ⟨K6, s6, g6, d6⟩ := d5.step (.lst [S [83, 107, 105, 112]]) np6
  generalize upd G5 p6 (.lst [S [83, 107, 105, 112]]) = G6 at *
  walk_at "go"
  refine i_new (by show 2 ≤ 100000; omega) fun p7 np7 => ?_
  obtain ⟨K7, s7, g7, d7⟩ := d6.step (.lst [S [104, 111, 108, 100], .int 1]) np7
  generalize upd G6 p7 (.lst [S [104, 111, 108, 100], .int 1]) = G7 at *
  walk_at "go"
  refine i_new (by show 2 ≤ 100000; omega) fun p8 np8 => ?_
  obtain ⟨K8, s8, g8, d8⟩ := d7.step (.lst [.int 0, .int 1]) np8
  generalize upd G7 p8 (.lst [.int 0, .int 1]) = G8 at *
  walk_at "go"
  refine i_new (by show 12 ≤ 100000; omega) fun l1 n1 => ?_
  have a1 : AtAll K8 [.non, .int 7, .bl true, S cSkip, S [103, 111, 32, 48], .ref p1, .ref p2, .ref p4, .ref p5, .ref p6, .ref p7, .ref p8] [.none, .int 7, .bool true, dS cSkip, dS [103, 111, 32, 48], .list [], .list [dS cSkip, dS cSkip], .list [.list [dS cSkip]], .list [dS cName], .list [dS [83, 107, 105, 112]], .list [dS [104, 111, 108, 100], .int 1], .list [.int 0, .int 1]] := by
    have t78 := s8
    have t68 := s7.trans t78
    have t58 := s6.trans t68
    have t48 := s5.trans t58
    have t38 := s4.trans t48
    have t28 := s3.trans t38
    have t18 := s2.trans t28
    exact .cons .non (.cons (.int 7) (.cons (.bl true) (.cons (.str _ (by decide)) (.cons (.str _ (by decide)) (.cons (At.mkLst (t18 _ _ g1) .nil (by decide)) (.cons (At.mkLst (t28 _ _ g2) (.cons (.str _ (by decide)) (.one (.str _ (by decide)))) (by decide))
      (.cons (At.mkLst (t48 _ _ g4) (.one (At.mkLst (t38 _ _ g3) (.one (.str _ (by decide))) (by decide))) (by decide)) (.cons (At.mkLst (t58 _ _ g5) (.one (.str _ (by decide))) (by decide)) (.cons (At.mkLst (t68 _ _ g6) (.one (.str _ (by decide))) (by decide))
      (.cons (At.mkLst (t78 _ _ g7) (.cons (.str _ (by decide)) (.one (.int 1))) (by decide)) (.one (At.mkLst g8 (.cons (.int 0) (.one (.int 1))) (by decide)))))))))))))
  have b1 : ∀ e ∈ [PyData.none, .int 7, .bool true, dS cSkip, dS [103, 111, 32, 48], .list [], .list [dS cSkip, dS cSkip], .list [.list [dS cSkip]], .list [dS cName], .list [dS [83, 107, 105, 112]], .list [dS [104, 111, 108, 100], .int 1], .list [.int 0, .int 1]], LineD 3 e := lines_of (by decide +kernel)
  have s18 := ((((((s1.trans s2).trans s3).trans s4).trans s5).trans s6).trans s7).trans s8
  have len1 : ([.non, .int 7, .bl true, S cSkip, S [103, 111, 32, 48], .ref p1, .ref p2, .ref p4, .ref p5, .ref p6, .ref p7, .ref p8] : List V).length = 12 := rfl
  generalize ([.non, .int 7, .bl true, S cSkip, S [103, 111, 32, 48], .ref p1, .ref p2, .ref p4, .ref p5, .ref p6, .ref p7, .ref p8] : List V) = xs1 at *
  generalize [PyData.none, .int 7, .bool true, dS cSkip, dS [103, 111, 32, 48], .list [], .list [dS cSkip, dS cSkip], .list [.list [dS cSkip]], .list [dS cName], .list [dS [83, 107, 105, 112]], .list [dS [104, 111, 108, 100], .int 1], .list [.int 0, .int 1]] = es1 at *
  clear s1 s2 s3 s4 s5 s6 s7 s8 g1 g2 g3 g4 g5 g6 g7 g8 d1 d2 d3 d4 d5 d6 d7
  obtain ⟨K9, s9, g9, d9⟩ := d8.step (.lst xs1) n1
  have e9 : (upd G8 l1 (.lst xs1)) l1 = some (.lst xs1) := upd_same
  generalize upd G8 l1 (.lst xs1) = G9 at *
  walk_at "go"
  refine i_new (by show 1 ≤ 100000; omega) fun p1 np1 => ?_
  obtain ⟨K1, s1, g1, d1⟩ := d9.step (.lst [.non]) np1
  generalize upd G9 p1 (.lst [.non]) = G1 at *
  walk_at "go"
  refine i_new (by show 1 ≤ 100000; omega) fun p2 np2 => ?_
  obtain ⟨K2, s2, g2, d2⟩ := d1.step (.lst [S cGo]) np2
  generalize upd G1 p2 (.lst [S cGo]) = G2 at *
  walk_at "go"
  refine i_new (by show 2 ≤ 100000; omega) fun p3 np3 => ?_
  obtain ⟨K3, s3, g3, d3⟩ := d2.step (.lst [S cGo, S [48]]) np3
  generalize upd G2 p3 (.lst [S cGo, S [48]]) = G3 at *
  walk_at "go"
  refine i_new (by show 3 ≤ 100000; omega) fun p4 np4 => ?_
  obtain ⟨K4, s4, g4, d4⟩ := d3.step (.lst [S cWait, .int 1, S [46]]) np4
  generalize upd G3 p4 (.lst [S cWait, .int 1, S [46]]) = G4 at *
  walk_at "go"
  refine i_new (by show 3 ≤ 100000; omega) fun p5 np5 => ?_
  obtain ⟨K5, s5, g5, d5⟩ := d4.step (.lst [S cPass, .int 1, .int 1]) np5
  generalize upd G4 p5 (.lst [S cPass, .int 1, .int 1]) = G5 at *
  walk_at "go"
  refine i_new (by show 3 ≤ 100000; omega) fun p6 np6 => ?_
  obtain ⟨K6, s6, g6, d6⟩ := d5.step (.lst [S cCount, S [46], .int 1]) np6
  generalize upd G5 p6 (.lst [S cCount, S [46], .int 1]) = G6 at *
  walk_at "go"
  refine i_new (by show 2 ≤ 100000; omega) fun p7 np7 => ?_
  obtain ⟨K7, s7, g7, d7⟩ := d6.step (.lst [S cName, S []]) np7
  generalize upd G6 p7 (.lst [S cName, S []]) = G7 at *
  walk_at "go"
  refine i_new (by show 7 ≤ 100000; omega) fun l2 n2 => ?_
  have a2 : AtAll K7 [.ref p1, .ref p2, .ref p3, .ref p4, .ref p5, .ref p6, .ref p7] [.list [.none], .list [dS cGo], .list [dS cGo, dS [48]], .list [dS cWait, .int 1, dS [46]], .list [dS cPass, .int 1, .int 1], .list [dS cCount, dS [46], .int 1], .list [dS cName, dS []]] := by
    have t67 := s7
    have t57 := s6.trans t67
    have t47 := s5.trans t57
    have t37 := s4.trans t47
    have t27 := s3.trans t37
    have t17 := s2.trans t27
    exact .cons (At.mkLst (t17 _ _ g1) (.one .non) (by decide)) (.cons (At.mkLst (t27 _ _ g2) (.one (.str _ (by decide))) (by decide)) (.cons (At.mkLst (t37 _ _ g3) (.cons (.str _ (by decide)) (.one (.str _ (by decide)))) (by decide))
      (.cons (At.mkLst (t47 _ _ g4) (.cons (.str _ (by decide)) (.cons (.int 1) (.one (.str _ (by decide))))) (by decide)) (.cons (At.mkLst (t57 _ _ g5) (.cons (.str _ (by decide)) (.cons (.int 1) (.one (.int 1)))) (by decide))
      (.cons (At.mkLst (t67 _ _ g6) (.cons (.str _ (by decide)) (.cons (.str _ (by decide)) (.one (.int 1)))) (by decide)) (.one (At.mkLst g7 (.cons (.str _ (by decide)) (.one (.str _ (by decide)))) (by decide))))))))
  have b2 : ∀ e ∈ [PyData.list [.none], .list [dS cGo], .list [dS cGo, dS [48]], .list [dS cWait, .int 1, dS [46]], .list [dS cPass, .int 1, .int 1], .list [dS cCount, dS [46], .int 1], .list [dS cName, dS []]], LineD 3 e := lines_of (by decide +kernel)
  have s17 := (((((s1.trans s2).trans s3).trans s4).trans s5).trans s6).trans s7
  have hx1 := d7.old (s17 _ _ g9)
  have al := (a1.same (s9.trans s17)).app a2
  have bl : ∀ e ∈ es1 ++ [PyData.list [.none], .list [dS cGo], .list [dS cGo, dS [48]], .list [dS cWait, .int 1, dS [46]], .list [dS cPass, .int 1, .int 1], .list [dS cCount, dS [46], .int 1], .list [dS cName, dS []]], LineD 3 e := fun e he => (List.mem_append.mp he).elim (b1 e) (b2 e)
  have lt : (xs1 ++ [V.ref p1, .ref p2, .ref p3, .ref p4, .ref p5, .ref p6, .ref p7]).length = 19 := by rw [List.length_append, len1]; rfl
  obtain ⟨K8', s8, g8, d8'⟩ := d7.step (.lst [V.ref p1, .ref p2, .ref p3, .ref p4, .ref p5, .ref p6, .ref p7]) n2
  have hx2 := d8'.old (s8 _ _ (s17 _ _ g9))
  refine i_catL hx2 upd_same (by rw [len1]; show 12 + 7 ≤ 100000; decide) fun l3 n3 => ?_
  generalize xs1 ++ [V.ref p1, .ref p2, .ref p3, .ref p4, .ref p5, .ref p6, .ref p7] = xs at *
  obtain ⟨K10, s10, g10, d10⟩ := d8'.step (.lst xs) n3
  walk_at "go"
  refine i_len_lst (.inl (.inl upd_same)) ?_
  walk_at "go"
  refine pick2 d10 (by omega) fun n2 G11 d11 bn2 => ?_
  obtain ⟨v, hv, hv'⟩ := pick_in bn2 (by omega)
  obtain ⟨e, he, ae⟩ := al.get hv'
  refine i_ix_lst (.inl (.inl (d11.old g10))) hv ?_
  exact q K10 _ v e ((((s18.trans s9).trans s17).trans s8).trans s10) d11 (ae.same (s8.trans s10)) (bl e (List.mem_of_getElem? he))
end
end K42
namespace K42
open PySem PySem.Spec PyProof.Rows L2 Fg
local macro_rules | `(tactic| walk_at "sq") => `(tactic| first
  | assumption
  | exact .inl (.inl (by assumption))
  | exact .inl (.inl upd_same))
local macro_rules | `(tactic| walk_at "st") => `(tactic| first
  | assumption
  | exact .inl (.inl (by assumption))
  | exact .inl (.inl upd_same))
local macro_rules | `(tactic| walk_at "o") => `(tactic| first
  | omega
  | assumption
  | (simp only [List.length_append, List.length_take, List.length_drop, List.length_cons, List.length_nil, List.length_singleton, List.length_map, List.length_range, Int.toNat_natCast] ; omega))
local macro_rules | `(tactic| walk_at "s") => `(tactic| first
  | (with_reducible refine i_seq ?_)
  | (with_reducible refine i_asg ?_)
  | ((with_reducible refine' i_var ?h1 ?_); (case h1 => rfl))
  | (with_reducible refine i_c ?_)
  | ((with_reducible refine' i_gname' ?h1 ?_); (case h1 => (simp only [List.set_cons_zero, List.set_cons_succ]; rfl)))
  | (with_reducible refine i_op ?_)
  | (with_reducible refine i_ifS ?_)
  | (with_reducible refine i_for ?_)
  | (with_reducible refine i_test ?_)
  | (with_reducible refine i_B ?_)
  | (with_reducible refine i_exbl ?_)
  | (with_reducible refine i_exint ?_)
  | (with_reducible refine i_cb ?_)
  | (with_reducible refine i_nil ?_)
  | (with_reducible refine i_cons ?_)
  | (with_reducible refine i_ret ?_)
  | (with_reducible refine i_sl ?_)
  | (with_reducible refine i_nopart ?_)
  | (with_reducible refine i_part ?_)
  | (with_reducible refine i_add_int ?_)
  | (with_reducible refine i_sub ?_)
  | (with_reducible refine i_lt ?_)
  | ((with_reducible refine' i_mod ?h1 ?_); (case h1 => walk_at "o"))
  | ((with_reducible refine' i_fdiv ?h1 ?_); (case h1 => (refine cdiv_small ?_ ?_ <;> walk_at "o")))
  | ((with_reducible refine' i_sl_to ?h1 ?h2 ?_); (case h1 => walk_at "o"); (case h2 => walk_at "o"))
  | ((with_reducible refine' i_sl_from ?h1 ?h2 ?_); (case h1 => walk_at "o"); (case h2 => walk_at "o"))
  | ((with_reducible refine' i_add_str ?h1 ?_); (case h1 => walk_at "o"))
  | ((with_reducible refine' i_mul_int ?h1 ?_); (case h1 => first | (refine mul_small ?_ ?_ <;> walk_at "o") | (refine mul_smallR ?_ ?_ <;> walk_at "o")))
  | (with_reducible refine i_le ?_)
  | (with_reducible refine i_gt ?_)
  | (with_reducible refine i_ge ?_)
  | (with_reducible refine i_eq_int ?_)
  | (with_reducible refine i_eq_str ?_)
  | (with_reducible refine i_ne_int ?_)
  | (with_reducible refine i_ne_str ?_)
  | (with_reducible refine i_eq_bl ?_)
  | (with_reducible refine i_ne_bl ?_)
  | (with_reducible refine i_in_sg ?_)
  | (with_reducible refine i_notIn_sg ?_)
  | (with_reducible refine i_call ?_)
  | (with_reducible refine i_callS ?_)
  | (with_reducible refine i_sp1 ?_)
  | (with_reducible refine i_sp2 ?_)
  | (with_reducible refine i_sp3 ?_)
  | (with_reducible refine i_sp4 ?_)
  | (with_reducible refine i_sp1' ?_)
  | (with_reducible refine i_sp2' ?_)
  | (with_reducible refine i_sp3' ?_)
  | ((with_reducible refine' i_ix_lst ?h1 ?h2 ?_); (case h1 => walk_at "sq"); (case h2 => first | exact atI_nat rfl | rfl))
  | ((with_reducible refine' i_ix_tup ?h1 ?h2 ?_); (case h1 => walk_at "st"); (case h2 => first | exact atI_nat rfl | rfl))
  | (with_reducible refine i_gsub ?_)
  | (with_reducible refine i_par ?_)
  | (with_reducible refine i_lstRg1 ?_)
  | (with_reducible refine i_app ?_)
  | (with_reducible refine i_par2 ?_)
  | ((with_reducible refine' i_aug ?h1 ?_); (case h1 => rfl))
  | (with_reducible refine i_ipI ?_)
  | ((with_reducible refine' i_gtup2 ?h1 ?_); (case h1 => walk_at "st"))
  | (with_reducible refine i_int_bl ?_)
  | (with_reducible refine i_raise ?_)
  | (with_reducible refine i_mkE ?_)
  | (with_reducible refine i_ex1 ?_)
  | (with_reducible refine i_and ?_)
  | (with_reducible refine i_or ?_)
  | (with_reducible refine i_not ?_)
  | (with_reducible refine i_tt ?_)
  | (with_reducible refine i_ff ?_)
  | (with_reducible refine i_nott ?_)
  | (with_reducible refine i_notf ?_)
  | (with_reducible refine i_andV ?_)
  | (with_reducible refine i_orV ?_)
  | (with_reducible refine i_notV ?_)
  | (with_reducible refine i_ifE ?_)
  | (with_reducible refine i_tup ?_)
  | (with_reducible refine i_lst ?_)
  | (with_reducible refine i_un ?_)
  | (with_reducible refine i_neg ?_)
  | (with_reducible refine i_chain ?_)
  | (with_reducible refine i_next ?_)
  | (with_reducible refine i_retN ?_)
  | (with_reducible refine i_drop ?_)
  | (with_reducible refine i_int_int ?_)
  | (with_reducible refine i_abs ?_)
  | (with_reducible refine i_m1c ?_)
  | (with_reducible refine i_is_non ?_)
  | (with_reducible refine i_is_int ?_)
  | (with_reducible refine i_is_bl ?_)
  | (with_reducible refine i_isn_bl ?_)
  | (with_reducible refine i_is_str ?_)
  | (with_reducible refine i_is_ref ?_)
  | (with_reducible refine i_isn_non ?_)
  | (with_reducible refine i_isn_int ?_)
  | (with_reducible refine i_isn_str ?_)
  | (with_reducible refine i_isn_ref ?_)
  | (with_reducible refine i_len_str ?h1 ?_; (case h1 => walk_at "o"))
  | (with_reducible refine i_callD ?_)
  | (with_reducible refine i_spD2 ?_)
  | (with_reducible refine i_spM1 ?_)
  | (with_reducible refine i_spM2 ?_)
  | (with_reducible refine i_spM3 ?_)
  | (with_reducible refine i_spM4 ?_)
  | (with_reducible refine i_spM3d ?_)
  | (with_reducible refine i_tfld ?_)
  | (with_reducible refine i_sfld ?_)
  | (with_reducible refine i_meth ?_)
  | (with_reducible refine i_make ?_)
  | (with_reducible refine i_spl ?_)
  | (with_reducible refine i_mkE2 ?_)
  | (with_reducible refine i_ex2 ?_)
  | (with_reducible refine i_dget ?_)
  | (with_reducible refine i_tru ?_)
  | (with_reducible refine i_dput ?_)
  | (with_reducible refine i_dnotin ?_)
  | (with_reducible refine i_din ?_)
  | (with_reducible refine i_isi_int_int ?_) | (with_reducible refine i_isi_int_bool ?_) | (with_reducible refine i_isi_int_str ?_) | (with_reducible refine i_isi_int_tuple ?_) | (with_reducible refine i_isi_int_list ?_)
  | (with_reducible refine i_isi_bl_int ?_) | (with_reducible refine i_isi_bl_bool ?_) | (with_reducible refine i_isi_bl_str ?_) | (with_reducible refine i_isi_bl_tuple ?_) | (with_reducible refine i_isi_bl_list ?_)
  | (with_reducible refine i_isi_str_int ?_) | (with_reducible refine i_isi_str_bool ?_) | (with_reducible refine i_isi_str_str ?_) | (with_reducible refine i_isi_str_tuple ?_) | (with_reducible refine i_isi_str_list ?_)
  | (with_reducible refine i_isi_non_int ?_) | (with_reducible refine i_isi_non_bool ?_) | (with_reducible refine i_isi_non_str ?_) | (with_reducible refine i_isi_non_tuple ?_) | (with_reducible refine i_isi_non_list ?_))
local macro_rules | `(tactic| walk_at "go") => `(tactic| (repeat' (walk_at "s")))
local macro_rules | `(tactic| walk_at "n") => `(tactic| simp only [wipe, List.map_cons, List.map_nil, List.set_cons_zero, List.set_cons_succ])
def isLstD : PyData → Bool
  | .list _ => true
  | _ => false
theorem i_isiLst {K : PySem.W.Frag} {H : Hp} {Q : VK} {v : V} {d : PyData} (b : Bool) (h : At H v d) (e : isLstD d = b) (q : Q (.bl b) H) : rIsi K [v, .ty "list"] H Q := by
  subst e
  refine i_isiD h (kit_ty ?_) q
  cases d <;> (simp only [kindD, isLstD] ; decide +kernel)
theorem cutV_fr {xs : List V} (k : Nat) : cutV xs (some (k : Int)) none = xs.drop k := by
  unfold cutV
  rw [HT.sIx_nat, HT.sIx_none]
  by_cases hk : k ≤ xs.length
  · rw [Nat.min_eq_left hk]
    exact List.take_of_length_le (by rw [List.length_drop]; omega)
  · rw [Nat.min_eq_right (by omega), Nat.sub_self, List.take_zero, List.drop_of_length_le (by omega)]
section
variable {P : Program} {w : World} {K : PySem.W.Frag} {mg : Str → Option Value} {base : Heap} {C_GlimError C_BadOrder C_BadReader C_NoLine C_Orders : Addr}
def p_L_spoilt (K : PySem.W.Frag) : P3 := fun x y z H Q _ => ∃ Hk dd fr d m n, x = .ref dd.a ∧ At Hk y d ∧ LineD n d ∧ 3 ≤ n ∧ n ≤ 10 ∧ z = .int m ∧ 0 ≤ m ∧ m ≤ 100 ∧ D2 K dd fr Hk H ∧ ∀ Hk' H' v e, Same Hk Hk' → D2 K dd fr Hk' H' → At Hk' v e → LineD (n + 1) e → Q v H'
theorem ok_L_spoilt (T : Txt K mg C_GlimError C_BadOrder C_BadReader C_NoLine C_Orders) : OK P w K mg base CX0 4 "_law_spoilt" ["_law_draw_here", "_law_line", "_law_many"] (sp3  (p_L_spoilt K)) := by
  refine OK.mk (k := 3) T.d_L_spoilt sc_L_spoilt len3 fun f cdv A outer s H vs Q E hr h => ?_
  obtain ⟨x, y, z, rfl, h⟩ := h
  refine ⟨_, (pss_cons (ps_set (i := 3) sc_L_spoilt.nd rfl (Or.inl rfl) (pe_f (ok_L_pick (K := K) T) (hr.mono (by decide)) pass0 (pa_cons (pv 0) (pa_cons pe_int pa_nil)))) (pss_cons (ps_if (pw_or (pt_cmpR (opEq K hr.units) (pv 3) pe_int (nomark _)) (pw_or (pt_not (pt_val (pe_callB (cIsi K) (by rfl) T.b_isinstance (by decide +kernel) (pa_cons (pv 1) (pa_cons (pe_bltn (v := .ty "list") (by rfl) T.b_list (by decide +kernel) rfl) pa_nil))))) (pw_or1 (pt_cmpR (opEq K hr.units) (pe_callB (cLen K) (by rfl) T.b_len (by decide +kernel) (pa_cons (pv 1) pa_nil)) pe_int (nomark _))))).pt (pss_one (ps_ret (pe_f (ok_L_odd_line (K := K) T) (hr.mono (by decide)) pass0 (pa_cons (pv 0) pa_nil)))) pss_nil) (pss_cons (ps_set (i := 4) sc_L_spoilt.nd rfl (Or.inl rfl) (pe_f (ok_L_pick (K := K) T) (hr.mono (by decide)) pass0 (pa_cons (pv 0) (pa_cons (pe_callB (cLen K) (by rfl) T.b_len (by decide +kernel) (pa_cons (pv 1) pa_nil)) pa_nil)))) (Evl.pss_cut (ps_if (pw_and (pt_cmpR op_gtP (pv 3) pe_int (nomark _)) (pw_and1 (pt_cmpR op_gtP (pe_callB (cLen K) (by rfl) T.b_len (by decide +kernel) (pa_cons (pv 1) pa_nil)) pe_int (nomark _)))).pt (pss_one (ps_set (i := 4) sc_L_spoilt.nd rfl (Or.inl rfl) (pe_op (opAdd K) pe_int (pe_f (ok_L_pick (K := K) T) (hr.mono (by decide)) pass0 (pa_cons (pv 0) (pa_cons (pe_op op_subP (pe_callB (cLen K) (by rfl) T.b_len (by decide +kernel) (pa_cons (pv 1) pa_nil)) pe_int) pa_nil)))))) pss_nil) (pss_cons (ps_if (pt_cmpR (opEq K hr.units) (pv 3) pe_int (nomark _)) (pss_one (ps_ret (pe_op (opAdd K) (pe_slice (slK K) (pv 1) po_none (po_some (pv 4))) (pe_slice (slK K) (pv 1) (po_some (pe_op (opAdd K) (pv 4) pe_int)) po_none)))) pss_nil) (pss_cons (ps_set (i := 5) sc_L_spoilt.nd rfl (Or.inl rfl) (pe_f (ok_L_odd (K := K) T) (hr.mono (by decide)) pass0 (pa_cons (pv 0) (pa_cons (pe_ix (ixK K) (pv 1) (pv 4) (fun _ _ => rfl)) (pa_cons (pv 2) pa_nil))))) (pss_cons (ps_if (pt_cmpR (opEq K hr.units) (pv 3) pe_int (nomark _)) (pss_one (ps_ret (pe_op (opAdd K) (pe_op (opAdd K) (pe_slice (slK K) (pv 1) po_none (po_some (pv 4))) (pe_lst (pa_cons (pv 5) pa_nil))) (pe_slice (slK K) (pv 1) (po_some (pv 4)) po_none)))) pss_nil) (pss_one (ps_ret (pe_op (opAdd K) (pe_op (opAdd K) (pe_slice (slK K) (pv 1) po_none (po_some (pv 4))) (pe_lst (pa_cons (pv 5) pa_nil))) (pe_slice (slK K) (pv 1) (po_some (pe_op (opAdd K) (pv 4) pe_int)) po_none))))))))))), ?_⟩
  show (_ : TS) { nx := fun _ H' => Q .non H', rt := Q } [some x, some y, some z, none, none, none] H
  obtain ⟨Hk, dd, fr, d, m, n, rfl, hy, ln, n3, n10, rfl, m0, m1, dr, q⟩ := h
  have odd : ∀ {G : Hp}, D2 K dd fr Hk G → ∃ Hk' dd' fr', V.ref dd.a = .ref dd'.a ∧ D2 K dd' fr' Hk' G ∧ ∀ Hk'' H'' v e, Same Hk' Hk'' → D2 K dd' fr' Hk'' H'' → At Hk'' v e → LineD 3 e → Q v H'' := fun d => ⟨Hk, dd, fr, rfl, d, fun Hk' H' v e s d2 av ld => q Hk' H' v e s d2 av (ld.mono (by omega))⟩
  walk_at "go"
  refine pick2 dr (by decide) fun k H1 d1 bk => ?_
  walk_at "go"
  refine i_dec (fun e0 => ?_) (fun e0 => ?_)
  · walk_at "go"
    exact odd d1
  walk_at "go"
  rcases ln with ⟨ds, rfl, lds, pds⟩ | ⟨ns, pd⟩
  rotate_left
  · refine i_isiLst false (hy.same d1.1) (by cases d <;> first | rfl | cases ns) ?_
    walk_at "go"
    exact odd d1
  obtain ⟨a, xs, rfl, hA, hl, al⟩ := hy.listed
  have ll := al.len
  refine i_isiLst true (hy.same d1.1) rfl ?_
  walk_at "go"
  refine i_len_lst (.inl (.inl (d1.old hA))) ?_
  walk_at "go"
  refine i_dec (fun e1 => ?_) (fun e1 => ?_)
  · walk_at "go"
    exact odd d1
  walk_at "go"
  refine i_len_lst (.inl (.inl (d1.old hA))) ?_
  walk_at "go"
  refine pick2 d1 (by omega) fun pl G2 d2 bp => ?_
  have p0 := bp.1
  have p1 : pl < (xs.length : Int) := by
    by_cases z : 2 ≤ (xs.length : Int)
    · exact bp.2.1 z
    · have := bp.2.2 (by omega); omega
  obtain ⟨p, rfl⟩ := Int.eq_ofNat_of_zero_le p0
  walk_at "go"
  refine i_cut (fun σ G => ∃ p : Nat, σ = [some (.ref dd.a), some (.ref a), some (.int m), some (.int k), some (.int (p : Int)), none] ∧ D2 K dd fr Hk G ∧ p < xs.length) ?_ ?_
  · walk_at "go"
    refine i_dec (fun e2 => ?_) (fun e2 => ⟨p, rfl, d2, by omega⟩)
    walk_at "go"
    refine i_len_lst (.inl (.inl (d2.old hA))) ?_
    walk_at "go"
    refine i_dec (fun e3 => ?_) (fun e3 => ⟨p, rfl, d2, by omega⟩)
    walk_at "go"
    refine i_len_lst (.inl (.inl (d2.old hA))) ?_
    walk_at "go"
    refine pick2 d2 (by omega) fun p2 G3 d3 bp2 => ?_
    have r0 := bp2.1
    have r1 : p2 < (xs.length : Int) - 1 := by
      by_cases z : 2 ≤ (xs.length : Int) - 1
      · exact bp2.2.1 z
      · have := bp2.2.2 (by omega); omega
    obtain ⟨p2, rfl⟩ := Int.eq_ofNat_of_zero_le r0
    walk_at "go"
    exact ⟨1 + p2, by rw [Int.natCast_add]; rfl, d3, by omega⟩
  rintro σ G ⟨p, rfl, d3, hp⟩
  have ep : (p : Int) + 1 = ((p + 1 : Nat) : Int) := by omega
  have fin : ∀ {G Hk1 : Hp} {r : Addr} {zs : List V} {es : List PyData}, Same Hk Hk1 → D2 K dd fr Hk1 G → G r = none → AtAll Hk1 zs es → (∀ e ∈ es, PartD e) → es.length ≤ n + 1 → Q (.ref r) (upd G r (.lst zs)) := fun {G Hk1 r zs es} s d nn h1 h2 h3 =>
    q _ _ _ (.list es) (s.trans (same_upd (d.free nn))) (d.new nn) (At.mkLst upd_same (h1.same (same_upd (d.free nn))) (by omega)) (.inl ⟨es, rfl, h3, h2⟩)
  have tk : ∀ j, ∀ e ∈ ds.take j, PartD e := fun j e he => pds e (List.mem_of_mem_take he)
  have dp : ∀ j, ∀ e ∈ ds.drop j, PartD e := fun j e he => pds e (List.mem_of_mem_drop he)
  walk_at "go"
  refine i_dec (fun e2 => ?_) (fun e2 => ?_)
  · walk_at "go"
    refine i_slL (.inl (.inl (d3.old hA))) fun l1 n1 => ?_
    rw [cutV_to]
    walk_at "go"
    have d4 := d3.same (same_upd (o := .lst (xs.take p)) n1)
    refine i_slL (.inl (.inl (d4.old hA))) fun l2 n2 => ?_
    rw [ep, cutV_fr]
    have d5 := d4.same (same_upd (o := .lst (xs.drop (p + 1))) n2)
    refine i_catL ((upd_ne (ne_of_none upd_same n2)).trans upd_same) upd_same (by rw [List.length_take, List.length_drop]; omega) fun l3 n3 => ?_
    exact fin (Same.refl _) d5 n3 ((al.take p).app (al.drop (p + 1))) (parts_app (tk p) (dp (p + 1))) (by rw [List.length_append, List.length_take, List.length_drop]; omega)
  have hx : xs[p]? = some xs[p] := List.getElem?_eq_getElem hp
  generalize xs[p] = v at hx
  obtain ⟨e, he, ae⟩ := al.get hx
  walk_at "go"
  refine i_ix_lst (v := v) (.inl (.inl (d3.old hA))) (atI_nat hx) ?_
  walk_at "go"
  refine ⟨Hk, dd, fr, e, m, rfl, ae, rfl, m0, m1, d3, fun Hk2 G4 v2 e4 s4 d4 av pe => ?_⟩
  have hA4 := s4 _ _ hA
  have al4 := al.same s4
  walk_at "go"
  refine i_dec (fun e5 => ?_) (fun e5 => ?_)
  · walk_at "go"
    refine i_slL (.inl (.inl (d4.old hA4))) fun l1 n1 => ?_
    rw [cutV_to]
    walk_at "go"
    have d5 := d4.same (same_upd (o := .lst (xs.take p)) n1)
    refine i_new (by show 1 ≤ 100000; omega) fun l2 n2 => ?_
    have d6 := d5.same (same_upd (o := .lst [v2]) n2)
    refine i_catL ((upd_ne (ne_of_none upd_same n2)).trans upd_same) upd_same (by rw [List.length_take]; show _ + 1 ≤ 100000; omega) fun l3 n3 => ?_
    have d7 := d6.same (same_upd (o := .lst (xs.take p ++ [v2])) n3)
    walk_at "go"
    refine i_slL (.inl (.inl (d7.old hA4))) fun l4 n4 => ?_
    rw [cutV_fr]
    have d8 := d7.same (same_upd (o := .lst (xs.drop p)) n4)
    refine i_catL ((upd_ne (ne_of_none upd_same n4)).trans upd_same) upd_same (by rw [List.length_append, List.length_take, List.length_drop]; show _ + 1 + _ ≤ 100000; omega) fun l5 n5 => ?_
    exact fin s4 d8 n5 (((al4.take p).app (.one av)).app (al4.drop p)) (parts_app (parts_app (tk p) fun x hx => by rw [List.mem_singleton.mp hx]; exact pe) (dp p)) (by rw [List.length_append, List.length_append, List.length_take, List.length_drop]; show _ + 1 + _ ≤ _; omega)
  · walk_at "go"
    refine i_slL (.inl (.inl (d4.old hA4))) fun l1 n1 => ?_
    rw [cutV_to]
    walk_at "go"
    have d5 := d4.same (same_upd (o := .lst (xs.take p)) n1)
    refine i_new (by show 1 ≤ 100000; omega) fun l2 n2 => ?_
    have d6 := d5.same (same_upd (o := .lst [v2]) n2)
    refine i_catL ((upd_ne (ne_of_none upd_same n2)).trans upd_same) upd_same (by rw [List.length_take]; show _ + 1 ≤ 100000; omega) fun l3 n3 => ?_
    have d7 := d6.same (same_upd (o := .lst (xs.take p ++ [v2])) n3)
    walk_at "go"
    refine i_slL (.inl (.inl (d7.old hA4))) fun l4 n4 => ?_
    rw [ep, cutV_fr]
    have d8 := d7.same (same_upd (o := .lst (xs.drop (p + 1))) n4)
    refine i_catL ((upd_ne (ne_of_none upd_same n4)).trans upd_same) upd_same (by rw [List.length_append, List.length_take, List.length_drop]; show _ + 1 + _ ≤ 100000; omega) fun l5 n5 => ?_
    exact fin s4 d8 n5 (((al4.take p).app (.one av)).app (al4.drop (p + 1))) (parts_app (parts_app (tk p) fun x hx => by rw [List.mem_singleton.mp hx]; exact pe) (dp (p + 1))) (by rw [List.length_append, List.length_append, List.length_take, List.length_drop]; show _ + 1 + _ ≤ _; omega)
end
end K42
namespace K42
open PySem PySem.Spec PyProof.Rows L2 Fg
local macro_rules | `(tactic| walk_at "sq") => `(tactic| first
  | assumption
  | exact .inl (.inl (by assumption))
  | exact .inl (.inl upd_same))
local macro_rules | `(tactic| walk_at "st") => `(tactic| first
  | assumption
  | exact .inl (.inl (by assumption))
  | exact .inl (.inl upd_same))
local macro_rules | `(tactic| walk_at "o") => `(tactic| first
  | omega
  | assumption
  | (simp only [List.length_append, List.length_take, List.length_drop, List.length_cons, List.length_nil, List.length_singleton, List.length_map, List.length_range, Int.toNat_natCast] ; omega))
local macro_rules | `(tactic| walk_at "s") => `(tactic| first
  | (with_reducible refine i_seq ?_)
  | (with_reducible refine i_asg ?_)
  | ((with_reducible refine' i_var ?h1 ?_); (case h1 => rfl))
  | (with_reducible refine i_c ?_)
  | ((with_reducible refine' i_gname' ?h1 ?_); (case h1 => (simp only [List.set_cons_zero, List.set_cons_succ]; rfl)))
  | (with_reducible refine i_op ?_)
  | (with_reducible refine i_ifS ?_)
  | (with_reducible refine i_for ?_)
  | (with_reducible refine i_test ?_)
  | (with_reducible refine i_B ?_)
  | (with_reducible refine i_exbl ?_)
  | (with_reducible refine i_exint ?_)
  | (with_reducible refine i_cb ?_)
  | (with_reducible refine i_nil ?_)
  | (with_reducible refine i_cons ?_)
  | (with_reducible refine i_ret ?_)
  | (with_reducible refine i_sl ?_)
  | (with_reducible refine i_nopart ?_)
  | (with_reducible refine i_part ?_)
  | (with_reducible refine i_add_int ?_)
  | (with_reducible refine i_sub ?_)
  | (with_reducible refine i_lt ?_)
  | ((with_reducible refine' i_mod ?h1 ?_); (case h1 => walk_at "o"))
  | ((with_reducible refine' i_fdiv ?h1 ?_); (case h1 => (refine cdiv_small ?_ ?_ <;> walk_at "o")))
  | ((with_reducible refine' i_sl_to ?h1 ?h2 ?_); (case h1 => walk_at "o"); (case h2 => walk_at "o"))
  | ((with_reducible refine' i_sl_from ?h1 ?h2 ?_); (case h1 => walk_at "o"); (case h2 => walk_at "o"))
  | ((with_reducible refine' i_add_str ?h1 ?_); (case h1 => walk_at "o"))
  | ((with_reducible refine' i_mul_int ?h1 ?_); (case h1 => first | (refine mul_small ?_ ?_ <;> walk_at "o") | (refine mul_smallR ?_ ?_ <;> walk_at "o")))
  | (with_reducible refine i_le ?_)
  | (with_reducible refine i_gt ?_)
  | (with_reducible refine i_ge ?_)
  | (with_reducible refine i_eq_int ?_)
  | (with_reducible refine i_eq_str ?_)
  | (with_reducible refine i_ne_int ?_)
  | (with_reducible refine i_ne_str ?_)
  | (with_reducible refine i_eq_bl ?_)
  | (with_reducible refine i_ne_bl ?_)
  | (with_reducible refine i_in_sg ?_)
  | (with_reducible refine i_notIn_sg ?_)
  | (with_reducible refine i_call ?_)
  | (with_reducible refine i_callS ?_)
  | (with_reducible refine i_sp1 ?_)
  | (with_reducible refine i_sp2 ?_)
  | (with_reducible refine i_sp3 ?_)
  | (with_reducible refine i_sp4 ?_)
  | (with_reducible refine i_sp1' ?_)
  | (with_reducible refine i_sp2' ?_)
  | (with_reducible refine i_sp3' ?_)
  | ((with_reducible refine' i_ix_lst ?h1 ?h2 ?_); (case h1 => walk_at "sq"); (case h2 => first | exact atI_nat rfl | rfl))
  | ((with_reducible refine' i_ix_tup ?h1 ?h2 ?_); (case h1 => walk_at "st"); (case h2 => first | exact atI_nat rfl | rfl))
  | (with_reducible refine i_gsub ?_)
  | (with_reducible refine i_par ?_)
  | (with_reducible refine i_lstRg1 ?_)
  | (with_reducible refine i_app ?_)
  | (with_reducible refine i_par2 ?_)
  | ((with_reducible refine' i_aug ?h1 ?_); (case h1 => rfl))
  | (with_reducible refine i_ipI ?_)
  | ((with_reducible refine' i_gtup2 ?h1 ?_); (case h1 => walk_at "st"))
  | (with_reducible refine i_int_bl ?_)
  | (with_reducible refine i_raise ?_)
  | (with_reducible refine i_mkE ?_)
  | (with_reducible refine i_ex1 ?_)
  | (with_reducible refine i_and ?_)
  | (with_reducible refine i_or ?_)
  | (with_reducible refine i_not ?_)
  | (with_reducible refine i_tt ?_)
  | (with_reducible refine i_ff ?_)
  | (with_reducible refine i_nott ?_)
  | (with_reducible refine i_notf ?_)
  | (with_reducible refine i_andV ?_)
  | (with_reducible refine i_orV ?_)
  | (with_reducible refine i_notV ?_)
  | (with_reducible refine i_ifE ?_)
  | (with_reducible refine i_tup ?_)
  | (with_reducible refine i_lst ?_)
  | (with_reducible refine i_un ?_)
  | (with_reducible refine i_neg ?_)
  | (with_reducible refine i_chain ?_)
  | (with_reducible refine i_next ?_)
  | (with_reducible refine i_retN ?_)
  | (with_reducible refine i_drop ?_)
  | (with_reducible refine i_int_int ?_)
  | (with_reducible refine i_abs ?_)
  | (with_reducible refine i_m1c ?_)
  | (with_reducible refine i_is_non ?_)
  | (with_reducible refine i_is_int ?_)
  | (with_reducible refine i_is_bl ?_)
  | (with_reducible refine i_isn_bl ?_)
  | (with_reducible refine i_is_str ?_)
  | (with_reducible refine i_is_ref ?_)
  | (with_reducible refine i_isn_non ?_)
  | (with_reducible refine i_isn_int ?_)
  | (with_reducible refine i_isn_str ?_)
  | (with_reducible refine i_isn_ref ?_)
  | (with_reducible refine i_len_str ?h1 ?_; (case h1 => walk_at "o"))
  | (with_reducible refine i_callD ?_)
  | (with_reducible refine i_spD2 ?_)
  | (with_reducible refine i_spM1 ?_)
  | (with_reducible refine i_spM2 ?_)
  | (with_reducible refine i_spM3 ?_)
  | (with_reducible refine i_spM4 ?_)
  | (with_reducible refine i_spM3d ?_)
  | (with_reducible refine i_tfld ?_)
  | (with_reducible refine i_sfld ?_)
  | (with_reducible refine i_meth ?_)
  | (with_reducible refine i_make ?_)
  | (with_reducible refine i_spl ?_)
  | (with_reducible refine i_mkE2 ?_)
  | (with_reducible refine i_ex2 ?_)
  | (with_reducible refine i_dget ?_)
  | (with_reducible refine i_tru ?_)
  | (with_reducible refine i_dput ?_)
  | (with_reducible refine i_dnotin ?_)
  | (with_reducible refine i_din ?_)
  | (with_reducible refine i_isi_int_int ?_) | (with_reducible refine i_isi_int_bool ?_) | (with_reducible refine i_isi_int_str ?_) | (with_reducible refine i_isi_int_tuple ?_) | (with_reducible refine i_isi_int_list ?_)
  | (with_reducible refine i_isi_bl_int ?_) | (with_reducible refine i_isi_bl_bool ?_) | (with_reducible refine i_isi_bl_str ?_) | (with_reducible refine i_isi_bl_tuple ?_) | (with_reducible refine i_isi_bl_list ?_)
  | (with_reducible refine i_isi_str_int ?_) | (with_reducible refine i_isi_str_bool ?_) | (with_reducible refine i_isi_str_str ?_) | (with_reducible refine i_isi_str_tuple ?_) | (with_reducible refine i_isi_str_list ?_)
  | (with_reducible refine i_isi_non_int ?_) | (with_reducible refine i_isi_non_bool ?_) | (with_reducible refine i_isi_non_str ?_) | (with_reducible refine i_isi_non_tuple ?_) | (with_reducible refine i_isi_non_list ?_))
local macro_rules | `(tactic| walk_at "go") => `(tactic| (repeat' (walk_at "s")))
local macro_rules | `(tactic| walk_at "n") => `(tactic| simp only [wipe, List.map_cons, List.map_nil, List.set_cons_zero, List.set_cons_succ])
abbrev cRefd : List Nat := [114, 101, 102, 117, 115, 101, 100]
abbrev cMade : List Nat := [109, 97, 100, 101]
/-- what is known once an instance is made -/
theorem made_ext {A H A1 H' : Hp} {C p dx t : Addr} (sa : Same A H) (np : H p = none) (ndx : H dx = none) (ne : dx ≠ p) (s1 : Same A A1) (s2 : Same A1 H') (b : But p (upd (upd H dx (.own p)) p (.ins C dx [])) H')
    (nw : ∀ c, A c = none → A1 c ≠ none → (upd (upd H dx (.own p)) p (.ins C dx [])) c = none) (n1 : A1 p = none) (hp : H' p = some (.ins C dx (OF t))) :
    Ext A H (upd (upd A1 dx (.own p)) p (.ins C dx (OF t))) H' ∧ Same A1 (upd (upd A1 dx (.own p)) p (.ins C dx (OF t))) := by
  have ndxA1 : A1 dx = none := by
    cases e : A1 dx with
    | none => rfl
    | some o =>
      have := nw dx (sa.free ndx) (by rw [e]; simp)
      rw [upd_ne ne, upd_same] at this
      cases this
  have hdx : H' dx = some (.own p) := b dx _ ne ((upd_ne ne).trans upd_same)
  have s3 : Same A1 (upd (upd A1 dx (.own p)) p (.ins C dx (OF t))) := (same_upd ndxA1).trans (same_upd ((upd_ne ne.symm).trans n1))
  refine ⟨⟨s1.trans s3, fun c o e => ?_, fun c o e => ?_, fun c h1 h2 => ?_⟩, s3⟩
  · by_cases h : c = p
    · rw [h, upd_same] at e; rw [h, hp]; exact e
    · rw [upd_ne h] at e
      by_cases h' : c = dx
      · rw [h', upd_same] at e; rw [h', hdx]; exact e
      · rw [upd_ne h'] at e; exact s2 _ _ e
  · have hc : c ≠ p := ne_of_none e np
    have hc2 : c ≠ dx := ne_of_none e ndx
    exact b c o hc ((upd_ne hc).trans ((upd_ne hc2).trans e))
  · by_cases h : c = p
    · rw [h]; exact np
    · by_cases h' : c = dx
      · rw [h']; exact ndx
      · rw [upd_ne h, upd_ne h'] at h2
        have := nw c h1 h2
        rw [upd_ne h, upd_ne h'] at this
        exact this
section
variable {P : Program} {w : World} {K : PySem.W.Frag} {mg : Str → Option Value} {base : Heap} {C_GlimError C_BadOrder C_BadReader C_NoLine C_Orders : Addr}
def p_L_tried (C : Addr) : P1 := fun x H Q _ => ∃ A d, Same A H ∧ At A x d ∧ d.depth < 6 ∧ d.canLay0 = true ∧
  (match badO (deepD d) with
    | some n => ∀ A' H' r, Ext A H A' H' → A' r = some (.tup [S cRefd, .int n]) → Q (.ref r) H'
    | none => ∀ A' H' r p dx t ds, Ext A H A' H' → A' r = some (.tup [S cMade, .ref p]) → A' p = some (.ins C dx (OF t)) → deepD d = .tuple ds → At A' (.ref t) (.tuple ds) → Q (.ref r) H')
theorem ok_L_tried (T : Txt K mg C_GlimError C_BadOrder C_BadReader C_NoLine C_Orders) : OK P w K mg base CX0 9 "_law_tried" ["_law_handed"] (sp1  (p_L_tried C_Orders)) := by
  refine OK.mk (k := 8) T.d_L_tried sc_L_tried len1 fun f cdv A outer s H vs Q E hr h => ?_
  obtain ⟨x, rfl, h⟩ := h
  refine ⟨_, (pss_cons (ps_try_as (i := 2) rfl rfl sc_L_tried.nd rfl rfl ⟨rfl, by decide, Or.inl T.c_GlimError⟩ takes0 (fun W pn xe tk _ => (pss_one (ps_set (i := 1) sc_L_tried.nd rfl (Or.inl rfl) (Fg.pe_mkS (ok_Orders___init__ (K := K) T) (hr.mono (by decide)) (fun σ => passAt tk σ) (pa_cons (pv 0) pa_nil))))) (fun a oe cls d pn hz hf => (pss_cons (ps_if (pw_or (pt_not (pt_val (pe_callB (cIsX K hz hf) (by rfl) T.b_isinstance (by decide +kernel) (pa_cons (pv 2) (pa_cons (pe_gR _ T.c_BadOrder) pa_nil))))) (pw_or (pt_not (pt_val (pe_callB (cIsX K hz hf) (by rfl) T.b_isinstance (by decide +kernel) (pa_cons (pv 2) (pa_cons (pe_bltn (v := .ty "ValueError") (by rfl) T.b_ValueError (by decide +kernel) rfl) pa_nil))))) (pw_or1 (pt_val (pe_callB (cIsX K hz hf) (by rfl) T.b_isinstance (by decide +kernel) (pa_cons (pv 2) (pa_cons (pe_gR _ T.c_BadReader) pa_nil))))))).pt (pss_one (ps_ret (pe_tup (pa_cons (pe_S [114, 101, 102, 117, 115, 101, 100]) (pa_cons pe_non pa_nil))))) pss_nil) (pss_one (ps_ret (pe_tup (pa_cons (pe_S [114, 101, 102, 117, 115, 101, 100]) (pa_cons (pe_xf T.e_BadOrder.xf T.nf_BadOrder_number hz hf (pv 2)) pa_nil)))))))) (pss_one (ps_ret (pe_tup (pa_cons (pe_S [109, 97, 100, 101]) (pa_cons (pv 1) pa_nil)))))), ?_⟩
  show (_ : TS) { nx := fun _ H' => Q .non H', rt := Q } [some x, none, none] H
  obtain ⟨A0, d, sa, hx, dp, lay, q⟩ := h
  walk_at "go"
  refine i_makeS ?_
  walk_at "go"
  intro p dx np ndx ne
  walk_at "go"
  have sH : Same H (upd (upd H dx (.own p)) p (.ins C_Orders dx [])) := (same_upd ndx).trans (same_upd ((upd_ne ne.symm).trans np))
  refine ⟨A0, p, dx, d, rfl, sa.trans sH, sa.free np, upd_same, hx, dp, lay, ?_⟩
  cases eb : badO (deepD d) with
  | some n =>
    rw [eb] at q
    have q : ∀ A' H' r, Ext A0 H A' H' → A' r = some (.tup [S cRefd, .int n]) → Q (.ref r) H' := q
    intro dd H1 nd s1 hdd
    have s2 := sH.trans s1
    refine i_caught T.m_BadOrder_GlimError fun a na => ?_
    show (_ : TS) _ [some x, none, some (.ref a)] H1
    walk_at "go"
    refine i_isX hdd T.e_BadOrder (.own _) T.k_BadOrder_BadOrder ?_
    walk_at "go"
    refine i_isX hdd T.e_BadOrder (.ty _) T.k_BadOrder_ValueError ?_
    walk_at "go"
    refine i_isX hdd T.e_BadOrder (.own _) T.k_BadOrder_BadReader ?_
    walk_at "go"
    refine i_xf rfl hdd ?_
    walk_at "go"
    refine i_new (by show 2 ≤ 100000; omega) fun r nr => ?_
    have x1 : Ext A0 H A0 H1 := ⟨Same.refl _, sa.trans s2, s2, fun b h1 h2 => absurd h1 h2⟩
    exact q _ _ r (x1.new nr) upd_same
  | none =>
    rw [eb] at q
    have q : ∀ A' H' r p dx t ds, Ext A0 H A' H' → A' r = some (.tup [S cMade, .ref p]) → A' p = some (.ins C_Orders dx (OF t)) → deepD d = .tuple ds → At A' (.ref t) (.tuple ds) → Q (.ref r) H' := q
    intro A1 H1 t ds ed s1 s2 b nw n1 hp at1
    obtain ⟨x1, s3⟩ := made_ext sa np ndx ne s1 s2 b nw n1 hp
    refine ⟨rfl, ?_⟩
    walk_at "go"
    refine i_new (by show 2 ≤ 100000; omega) fun r nr => ?_
    have x2 := x1.new (o := .tup [S cMade, .ref p]) nr
    have kr := x1.ag.free nr
    exact q _ _ r p dx t ds x2 upd_same (same_upd kr _ _ upd_same) ed ((at1.same s3).same (same_upd kr))
def p_L_no_line (C : Addr) : P2 := fun x y H Q _ => ∃ p dx t xs d, x = .ref p ∧ H p = some (.ins C dx (OF t)) ∧ H t = some (.tup xs) ∧ At H y d ∧ isIn d 0 ((xs.length : Int) - 1) = false ∧ PartD d ∧ ∀ H', Same H H' → Q (.bl true) H'
theorem ok_L_no_line (T : Txt K mg C_GlimError C_BadOrder C_BadReader C_NoLine C_Orders) : GOK P w K mg base CX0 5 "_law_no_line" ["_law_orders", "_law_thing"] (sp2  (p_L_no_line C_Orders)) := by
  refine GOK.mk (k := 4) T.d_L_no_line sc_L_no_line len2 fun f cdv A outer s H vs Q E hgu hr h => ?_
  obtain ⟨x, y, rfl, h⟩ := h
  refine ⟨_, (pss_cons (ps_try_as (i := 3) rfl rfl sc_L_no_line.nd rfl rfl ⟨rfl, by decide, Or.inl T.c_GlimError⟩ takes0 (fun W pn xe tk _ => (pss_one (ps_set (i := 2) sc_L_no_line.nd rfl (Or.inl rfl) (pe_lst (pa_cons (Fg.pe_ixOS (pv 0) (pv 1) (ok_Orders___getitem__ (K := K) T) (hr.mono (by decide)) (fun σ => passAt tk σ)) pa_nil))))) (fun a oe cls d pn hz hf => (pss_one (ps_ret (pe_and (pe_callB (cIsX K hz hf) (by rfl) T.b_isinstance (by decide +kernel) (pa_cons (pv 3) (pa_cons (pe_gR _ T.c_NoLine) pa_nil))) (pe_and (pe_not (pe_callB (cIsX K hz hf) (by rfl) T.b_isinstance (by decide +kernel) (pa_cons (pv 3) (pa_cons (pe_gR _ T.c_BadOrder) pa_nil)))) (pe_one (pe_cmpR (opEq K hr.units) (pe_callB (Fg.cReprA K hgu hr.units) (by rfl) T.b_repr (by decide +kernel) (pa_cons (pe_xf T.e_NoLine.xf T.nf_NoLine_number hz hf (pv 3)) pa_nil)) (pe_callB (Fg.cReprA K hgu hr.units) (by rfl) T.b_repr (by decide +kernel) (pa_cons (pv 1) pa_nil)) (nomark _))))))))) (pss_one (ps_ret (pe_cmpR (opEq K hr.units) (pv 2) (pe_lst (pa_cons (pe_S [114, 101, 102, 117, 115, 101, 100]) pa_nil)) (nomark _))))), ?_⟩
  show (_ : TS) { nx := fun _ H' => Q .non H', rt := Q } [some x, some y, none, none] H
  obtain ⟨p, dx, t, xs, d, rfl, hp, ht, hy, hin, pd, q⟩ := h
  walk_at "go"
  refine i_ixOS ?_
  walk_at "go"
  refine ⟨p, dx, _, rfl, hp, ?_⟩
  walk_at "go"
  refine ⟨p, dx, t, xs, d, rfl, hp, ht, hy, ?_⟩
  rw [hin, if_neg (by decide)]
  intro dd H1 nd s1 hdd
  refine i_caught T.m_NoLine_GlimError fun a na => ?_
  show (_ : TS) _ [some (.ref p), some y, none, some (.ref a)] H1
  have nd' := PyData.hasDict_of_canLay _ pd.lay
  have dd' := pd.dep
  walk_at "go"
  refine i_isX hdd T.e_NoLine (.own _) T.k_NoLine_NoLine ?_
  walk_at "go"
  refine i_isX hdd T.e_NoLine (.own _) T.k_NoLine_BadOrder ?_
  walk_at "go"
  refine i_xf rfl hdd ?_
  walk_at "go"
  refine i_reprA (hy.same s1) pd.rp (by decide) nd' (by omega) ?_
  walk_at "go"
  refine i_reprA (hy.same s1) pd.rp (by decide) nd' (by omega) ?_
  refine i_eq_same ?_
  exact q _ s1
end
end K42
namespace K42
open PySem PySem.Spec PyProof.Rows L2 Fg
local macro_rules | `(tactic| walk_at "sq") => `(tactic| first
  | assumption
  | exact .inl (.inl (by assumption))
  | exact .inl (.inl upd_same))
local macro_rules | `(tactic| walk_at "st") => `(tactic| first
  | assumption
  | exact .inl (.inl (by assumption))
  | exact .inl (.inl upd_same))
local macro_rules | `(tactic| walk_at "o") => `(tactic| first
  | omega
  | assumption
  | (simp only [List.length_append, List.length_take, List.length_drop, List.length_cons, List.length_nil, List.length_singleton, List.length_map, List.length_range, Int.toNat_natCast] ; omega))
local macro_rules | `(tactic| walk_at "s") => `(tactic| first
  | (with_reducible refine i_seq ?_)
  | (with_reducible refine i_asg ?_)
  | ((with_reducible refine' i_var ?h1 ?_); (case h1 => rfl))
  | (with_reducible refine i_c ?_)
  | ((with_reducible refine' i_gname' ?h1 ?_); (case h1 => (simp only [List.set_cons_zero, List.set_cons_succ]; rfl)))
  | (with_reducible refine i_op ?_)
  | (with_reducible refine i_ifS ?_)
  | (with_reducible refine i_for ?_)
  | (with_reducible refine i_test ?_)
  | (with_reducible refine i_B ?_)
  | (with_reducible refine i_exbl ?_)
  | (with_reducible refine i_exint ?_)
  | (with_reducible refine i_cb ?_)
  | (with_reducible refine i_nil ?_)
  | (with_reducible refine i_cons ?_)
  | (with_reducible refine i_ret ?_)
  | (with_reducible refine i_sl ?_)
  | (with_reducible refine i_nopart ?_)
  | (with_reducible refine i_part ?_)
  | (with_reducible refine i_add_int ?_)
  | (with_reducible refine i_sub ?_)
  | (with_reducible refine i_lt ?_)
  | ((with_reducible refine' i_mod ?h1 ?_); (case h1 => walk_at "o"))
  | ((with_reducible refine' i_fdiv ?h1 ?_); (case h1 => (refine cdiv_small ?_ ?_ <;> walk_at "o")))
  | ((with_reducible refine' i_sl_to ?h1 ?h2 ?_); (case h1 => walk_at "o"); (case h2 => walk_at "o"))
  | ((with_reducible refine' i_sl_from ?h1 ?h2 ?_); (case h1 => walk_at "o"); (case h2 => walk_at "o"))
  | ((with_reducible refine' i_add_str ?h1 ?_); (case h1 => walk_at "o"))
  | ((with_reducible refine' i_mul_int ?h1 ?_); (case h1 => first | (refine mul_small ?_ ?_ <;> walk_at "o") | (refine mul_smallR ?_ ?_ <;> walk_at "o")))
  | (with_reducible refine i_le ?_)
  | (with_reducible refine i_gt ?_)
  | (with_reducible refine i_ge ?_)
  | (with_reducible refine i_eq_int ?_)
  | (with_reducible refine i_eq_str ?_)
  | (with_reducible refine i_ne_int ?_)
  | (with_reducible refine i_ne_str ?_)
  | (with_reducible refine i_eq_bl ?_)
  | (with_reducible refine i_ne_bl ?_)
  | (with_reducible refine i_in_sg ?_)
  | (with_reducible refine i_notIn_sg ?_)
  | (with_reducible refine i_call ?_)
  | (with_reducible refine i_callS ?_)
  | (with_reducible refine i_sp1 ?_)
  | (with_reducible refine i_sp2 ?_)
  | (with_reducible refine i_sp3 ?_)
  | (with_reducible refine i_sp4 ?_)
  | (with_reducible refine i_sp1' ?_)
  | (with_reducible refine i_sp2' ?_)
  | (with_reducible refine i_sp3' ?_)
  | ((with_reducible refine' i_ix_lst ?h1 ?h2 ?_); (case h1 => walk_at "sq"); (case h2 => first | exact atI_nat rfl | rfl))
  | ((with_reducible refine' i_ix_tup ?h1 ?h2 ?_); (case h1 => walk_at "st"); (case h2 => first | exact atI_nat rfl | rfl))
  | (with_reducible refine i_gsub ?_)
  | (with_reducible refine i_par ?_)
  | (with_reducible refine i_lstRg1 ?_)
  | (with_reducible refine i_app ?_)
  | (with_reducible refine i_par2 ?_)
  | ((with_reducible refine' i_aug ?h1 ?_); (case h1 => rfl))
  | (with_reducible refine i_ipI ?_)
  | ((with_reducible refine' i_gtup2 ?h1 ?_); (case h1 => walk_at "st"))
  | (with_reducible refine i_int_bl ?_)
  | (with_reducible refine i_raise ?_)
  | (with_reducible refine i_mkE ?_)
  | (with_reducible refine i_ex1 ?_)
  | (with_reducible refine i_and ?_)
  | (with_reducible refine i_or ?_)
  | (with_reducible refine i_not ?_)
  | (with_reducible refine i_tt ?_)
  | (with_reducible refine i_ff ?_)
  | (with_reducible refine i_nott ?_)
  | (with_reducible refine i_notf ?_)
  | (with_reducible refine i_andV ?_)
  | (with_reducible refine i_orV ?_)
  | (with_reducible refine i_notV ?_)
  | (with_reducible refine i_ifE ?_)
  | (with_reducible refine i_tup ?_)
  | (with_reducible refine i_lst ?_)
  | (with_reducible refine i_un ?_)
  | (with_reducible refine i_neg ?_)
  | (with_reducible refine i_chain ?_)
  | (with_reducible refine i_next ?_)
  | (with_reducible refine i_retN ?_)
  | (with_reducible refine i_drop ?_)
  | (with_reducible refine i_int_int ?_)
  | (with_reducible refine i_abs ?_)
  | (with_reducible refine i_m1c ?_)
  | (with_reducible refine i_is_non ?_)
  | (with_reducible refine i_is_int ?_)
  | (with_reducible refine i_is_bl ?_)
  | (with_reducible refine i_isn_bl ?_)
  | (with_reducible refine i_is_str ?_)
  | (with_reducible refine i_is_ref ?_)
  | (with_reducible refine i_isn_non ?_)
  | (with_reducible refine i_isn_int ?_)
  | (with_reducible refine i_isn_str ?_)
  | (with_reducible refine i_isn_ref ?_)
  | (with_reducible refine i_len_str ?h1 ?_; (case h1 => walk_at "o"))
  | (with_reducible refine i_callD ?_)
  | (with_reducible refine i_spD2 ?_)
  | (with_reducible refine i_spM1 ?_)
  | (with_reducible refine i_spM2 ?_)
  | (with_reducible refine i_spM3 ?_)
  | (with_reducible refine i_spM4 ?_)
  | (with_reducible refine i_spM3d ?_)
  | (with_reducible refine i_tfld ?_)
  | (with_reducible refine i_sfld ?_)
  | (with_reducible refine i_meth ?_)
  | (with_reducible refine i_make ?_)
  | (with_reducible refine i_spl ?_)
  | (with_reducible refine i_mkE2 ?_)
  | (with_reducible refine i_ex2 ?_)
  | (with_reducible refine i_dget ?_)
  | (with_reducible refine i_tru ?_)
  | (with_reducible refine i_dput ?_)
  | (with_reducible refine i_dnotin ?_)
  | (with_reducible refine i_din ?_)
  | (with_reducible refine i_isi_int_int ?_) | (with_reducible refine i_isi_int_bool ?_) | (with_reducible refine i_isi_int_str ?_) | (with_reducible refine i_isi_int_tuple ?_) | (with_reducible refine i_isi_int_list ?_)
  | (with_reducible refine i_isi_bl_int ?_) | (with_reducible refine i_isi_bl_bool ?_) | (with_reducible refine i_isi_bl_str ?_) | (with_reducible refine i_isi_bl_tuple ?_) | (with_reducible refine i_isi_bl_list ?_)
  | (with_reducible refine i_isi_str_int ?_) | (with_reducible refine i_isi_str_bool ?_) | (with_reducible refine i_isi_str_str ?_) | (with_reducible refine i_isi_str_tuple ?_) | (with_reducible refine i_isi_str_list ?_)
  | (with_reducible refine i_isi_non_int ?_) | (with_reducible refine i_isi_non_bool ?_) | (with_reducible refine i_isi_non_str ?_) | (with_reducible refine i_isi_non_tuple ?_) | (with_reducible refine i_isi_non_list ?_))
local macro_rules | `(tactic| walk_at "go") => `(tactic| (repeat' (walk_at "s")))
local macro_rules | `(tactic| walk_at "n") => `(tactic| simp only [wipe, List.map_cons, List.map_nil, List.set_cons_zero, List.set_cons_succ])
/-- lines that can be told -/
structure TellD (ds : List PyData) : Prop where
  lay : PyData.canLayAll0 ds = true
  dep : PyData.depthAll ds ≤ 4
  each : ∀ d ∈ ds, Rp 500 d
  len : 1 ≤ ds.length ∧ ds.length ≤ 20
theorem TellD.rp {ds : List PyData} (h : TellD ds) : Rp 20000 (.tuple ds) := (Rp.tuple h.each).mono (by have := h.len.2; omega)
theorem TellD.rpL {ds : List PyData} (h : TellD ds) : Rp 20000 (.list ds) := (Rp.list h.each).mono (by have := h.len.2; omega)
theorem TellD.ndT {ds : List PyData} (h : TellD ds) : (PyData.tuple ds).hasDict = false := PyData.hasDict_of_canLay _ (by simp only [PyData.canLay0]; exact h.lay)
theorem TellD.ndL {ds : List PyData} (h : TellD ds) : (PyData.list ds).hasDict = false := PyData.hasDict_of_canLay _ (by simp only [PyData.canLay0]; exact h.lay)
theorem TellD.dpT {ds : List PyData} (h : TellD ds) : (PyData.tuple ds).depth ≤ 60 := by
  have := h.dep
  show PyData.depthAll ds + 1 ≤ 60
  omega
theorem TellD.dpL {ds : List PyData} (h : TellD ds) : (PyData.list ds).depth ≤ 60 := h.dpT
theorem TellD.one {ds : List PyData} (h : TellD ds) {d : PyData} (hd : d ∈ ds) : Rp 500 d ∧ d.hasDict = false ∧ d.depth ≤ 60 := by
  have := depth_mem hd
  have := h.dep
  exact ⟨h.each d hd, PyData.hasDict_of_canLay _ (lay_mem h.lay hd), by omega⟩
section
variable {P : Program} {w : World} {K : PySem.W.Frag} {mg : Str → Option Value} {base : Heap} {C_GlimError C_BadOrder C_BadReader C_NoLine C_Orders : Addr}
def p_L_tells (C : Addr) : P2 := fun x y H Q _ => ∃ p dx t u ds, x = .ref p ∧ y = .ref u ∧ H p = some (.ins C dx (OF t)) ∧ At H (.ref t) (.tuple ds) ∧ At H (.ref u) (.tuple ds) ∧ TellD ds ∧ ∀ H', Same H H' → Q (.bl true) H'
theorem ok_L_tells (T : Txt K mg C_GlimError C_BadOrder C_BadReader C_NoLine C_Orders) : GOK P w K mg base CX0 6 "_law_tells" ["_law_orders", "_law_due_here"] (sp2  (p_L_tells C_Orders)) := by
  refine GOK.mk (k := 5) T.d_L_tells sc_L_tells len2 fun f cdv A outer s H vs Q E hgu hr h => ?_
  obtain ⟨x, y, rfl, h⟩ := h
  refine ⟨_, (pss_cons (ps_set (i := 2) sc_L_tells.nd rfl (Or.inl rfl) (pe_callB (cLen K) (by rfl) T.b_len (by decide +kernel) (pa_cons (pv 1) pa_nil))) (pss_cons (ps_if (pw_or (pt_not (pt_val (pe_callB (cIsi K) (by rfl) T.b_isinstance (by decide +kernel) (pa_cons (pv 0) (pa_cons (pe_gR _ T.c_Orders) pa_nil))))) (pw_or (pt_cmpR (opNe K hr.units) (pe_callB (Fg.cReprA K hgu hr.units) (by rfl) T.b_repr (by decide +kernel) (pa_cons (peFld K (pv 0)) pa_nil)) (pe_callB (Fg.cReprA K hgu hr.units) (by rfl) T.b_repr (by decide +kernel) (pa_cons (pv 1) pa_nil)) (nomark _)) (pw_or1 (pt_cmpR (opNe K hr.units) (pe_callB (Fg.call_lenO (ok_Orders___len__ (K := K) T) (hr.mono (by decide)) pass0) (by rfl) T.b_len (by decide +kernel) (pa_cons (pv 0) pa_nil)) (pv 2) (nomark _))))).pt (pss_one (ps_ret pe_bl)) pss_nil) (pss_cons (ps_if (pt_cmpR (opNe K hr.units) (pe_callB (Fg.cReprA K hgu hr.units) (by rfl) T.b_repr (by decide +kernel) (pa_cons (pe_lc (own := [("_law_line", 4)]) (g := gName 4) (tt := tYes) (by rfl) sc_L_tells.nd (Fg.piOwnK K (pv 0) (ok_Orders___iter__ (K := K) T) (hr.mono (by decide)) pass0) (blkOk_by (own := [("_law_line", 4)]) (N := ["_law_orders", "_law_due_here", "_law_many", "_law_thing", "_law_line", "_law_number"]) (sc := (defScope s_L_tells)) (by decide +kernel)) (fun _ _ _ _ _ => (pg_name (i := 4) sc_L_tells.nd rfl (Or.inl rfl))) (fun _ _ _ _ _ => pts_nil) (fun _ _ _ _ _ => (pv 4))) pa_nil)) (pe_callB (Fg.cReprA K hgu hr.units) (by rfl) T.b_repr (by decide +kernel) (pa_cons (pe_callTy (cListP K) (by rfl) T.b_list (by decide +kernel) (pa_cons (pv 1) pa_nil)) pa_nil)) (nomark _)) (pss_one (ps_ret pe_bl)) pss_nil) (pss_cons (ps_if (ptTruth K (pe_lc (own := [("_law_number", 5)]) (g := gName 5) (by rfl) sc_L_tells.nd (pi_range1 rfl T.b_range (pa_cons (pv 2) pa_nil)) (blkOk_by (own := [("_law_number", 5)]) (N := ["_law_orders", "_law_due_here", "_law_many", "_law_thing", "_law_line", "_law_number"]) (sc := (defScope s_L_tells)) (by decide +kernel)) (fun _ _ _ _ _ => (pg_name (i := 5) sc_L_tells.nd rfl (Or.inl rfl))) (fun _ _ _ _ _ => (pts_one (pt_cmpR (opNe K hr.units) (pe_callB (Fg.cReprA K hgu hr.units) (by rfl) T.b_repr (by decide +kernel) (pa_cons (Fg.pe_ixO (pv 0) (pv 5) (ok_Orders___getitem__ (K := K) T) (hr.mono (by decide)) Fg.passN) pa_nil)) (pe_callB (Fg.cReprA K hgu hr.units) (by rfl) T.b_repr (by decide +kernel) (pa_cons (pe_ix (ixK K) (pv 1) (pv 5) (fun _ _ => rfl)) pa_nil)) (nomark _)))) (fun _ _ _ _ _ => (pv 5))) (fun _ => rfl)) (pss_one (ps_ret pe_bl)) pss_nil) (pss_cons (ps_for PassesOwn.never rfl (piAny K (pe_lst (pa_cons (pe_un un_neg pe_int) (pa_cons (pv 2) (pa_cons (pe_op (opAdd K) (pv 2) pe_int) (pa_cons (pe_un un_neg (pv 2)) (pa_cons pe_bl (pa_cons pe_bl (pa_cons pe_non (pa_cons (pe_S [48]) (pa_cons (pe_S []) (pa_cons (pe_tup (pa_cons pe_int pa_nil)) (pa_cons (pe_lst (pa_cons pe_int pa_nil)) (pa_cons (pe_op op_powP pe_int pe_int) pa_nil)))))))))))))) (pg_name (i := 3) sc_L_tells.nd rfl (Or.inl rfl)) (pss_one (ps_if (pt_not (pt_val (pe_g (ok_L_no_line (K := K) T) hgu (hr.mono (by decide)) pass0 (pa_cons (pv 0) (pa_cons (pv 3) pa_nil))))) (pss_one (ps_ret pe_bl)) pss_nil))) (pss_one (ps_ret pe_bl))))))), ?_⟩
  show (_ : TS) { nx := fun _ H' => Q .non H', rt := Q } [some x, some y, none, none, none, none] H
  obtain ⟨p, dx, t, u, ds, rfl, rfl, hp, ht, hu, td, q⟩ := h
  obtain ⟨t', xs, et, hT, hl, al⟩ := ht.tupled
  cases et
  obtain ⟨u', ys, eu, hU, hl2, al2⟩ := hu.tupled
  cases eu
  have ll := al.len
  have ll2 := al2.len
  obtain ⟨n1, n20⟩ := td.len
  walk_at "go"
  refine i_len_tup (.inl (.inl hU)) ?_
  rw [ll2]
  walk_at "go"
  refine i_isiO hp T.ic_Orders (.own _) T.k_Orders_Orders ?_
  walk_at "go"
  refine i_fld hp T.cl_Orders T.na_Orders_lines (OF_at t) ?_
  walk_at "go"
  refine i_reprA ht td.rp (by decide) td.ndT td.dpT ?_
  walk_at "go"
  refine i_reprA hu td.rp (by decide) td.ndT td.dpT ?_
  walk_at "go"
  refine i_ne_same ?_
  walk_at "go"
  refine i_lenO hp ?_
  walk_at "go"
  refine ⟨p, dx, t, xs, rfl, hp, hT, ds.length, by rw [ll], by omega, ?_⟩
  walk_at "go"
  rw [decide_eq_true (show (xs.length : Int) = (ds.length : Int) by omega)]
  walk_at "go"
  have nds : ds.length ≤ 10000 := by omega
  refine c_ownD (Same.refl H) (fun R k => by walk_at "go"; exact k) hp (OF_at t) (.inl (.inl hT)) al (by omega) id (fun _ => rfl) (fun x d A1 G1 hd av x1 QV k => ?_) (fun Dl A1 G1 l x1 gl al1 atl len => ?_)
  · show (_ : TE) [some (.ref p), some (.ref u), some (.int (ds.length : Int)), none, some x, none] G1 QV
    walk_at "go"
    exact k _ _ x (Ext.refl x1.ag) av
  rw [List.map_id] at atl
  have s1 := x1.gg
  walk_at "go"
  refine i_reprA (At.mkLst gl (atl.same x1.ag) (by omega)) td.rpL (by decide) td.ndL td.dpL ?_
  walk_at "go"
  refine ⟨u, ys, rfl, .inr (.inl (.inl (s1 _ _ hU))), fun l2 nl2 => ?_⟩
  walk_at "go"
  have s2 := s1.trans (same_upd (o := .lst ys) nl2)
  refine i_reprA (At.mkLst upd_same (al2.same s2) (by omega)) td.rpL (by decide) td.ndL td.dpL ?_
  walk_at "go"
  refine i_ne_same ?_
  generalize upd G1 l2 (.lst ys) = G2 at *
  walk_at "go"
  refine c_rng1 ds.length (fun R k => by walk_at "go"; exact k) (by omega) (fun _ => false) (fun i => .int (i : Int)) (fun _ => rfl) (fun i H3 hi s3 QB k => ?_) (fun i H3 hi s3 hf QV k => ?_) (fun Dl2 H3 n3 s3 d3 => ?_)
  · show (_ : TT) [some (.ref p), some (.ref u), some (.int (ds.length : Int)), none, none, some (.int (i : Int))] H3 QB
    have s4 := s2.trans s3
    obtain ⟨d, hd⟩ : ∃ d, ds[i]? = some d := ⟨_, List.getElem?_eq_getElem hi⟩
    obtain ⟨v, hv, av⟩ := al.at hd
    obtain ⟨w, hw, aw⟩ := al2.at hd
    obtain ⟨r1, r2, r3⟩ := td.one (List.mem_of_getElem? hd)
    walk_at "go"
    refine i_ixO ?_
    walk_at "go"
    refine ⟨p, dx, _, rfl, s4 _ _ hp, ?_⟩
    walk_at "go"
    refine ⟨p, dx, t, xs, .int (i : Int), rfl, s4 _ _ hp, s4 _ _ hT, .int _, ?_⟩
    have e1 : isIn (.int (i : Int)) 0 ((xs.length : Int) - 1) = true := by rw [isIn_int, decide_eq_true (by omega), decide_eq_true (by omega)]; rfl
    rw [e1, if_pos rfl]
    rintro j v2 ej j0 hj
    cases ej
    rw [Int.toNat_natCast, hv] at hj
    cases hj
    walk_at "go"
    refine i_reprA (av.same s4) r1 (by decide) r2 r3 ?_
    walk_at "go"
    refine i_ix_tup (.inl (.inl (s4 _ _ hU))) (atI_nat hw) ?_
    walk_at "go"
    refine i_reprA (aw.same s4) r1 (by decide) r2 r3 ?_
    walk_at "go"
    refine i_ne_same ?_
    exact ⟨_, rfl, k H3 (Same.refl _)⟩
  · exact absurd hf (by decide)
  have e0 : kept (fun _ => false) (fun i => V.int (i : Int)) ds.length = [] := by unfold kept; rw [List.filter_eq_nil_iff.mpr fun _ _ => by decide]; rfl
  rw [e0] at d3
  refine i_truL0 d3 ?_
  have s4 := s2.trans s3
  walk_at "go"
  refine i_new (by show 1 ≤ 100000; omega) fun p1 np1 => ?_
  have s5 := s4.trans (same_upd (o := .tup [.int 0]) np1)
  have g1 : (upd H3 p1 (.tup [.int 0])) p1 = some (.tup [.int 0]) := upd_same
  generalize upd H3 p1 (.tup [.int 0]) = G5 at *
  walk_at "go"
  refine i_new (by show 1 ≤ 100000; omega) fun p2 np2 => ?_
  have s6 := same_upd (o := .lst [.int 0]) np2
  have g2 : (upd G5 p2 (.lst [.int 0])) p2 = some (.lst [.int 0]) := upd_same
  generalize upd G5 p2 (.lst [.int 0]) = G6 at *
  walk_at "go"
  refine i_pow (by decide +kernel) ?_
  walk_at "go"
  refine i_new (by show 12 ≤ 100000; omega) fun p3 np3 => ?_
  have s7 := same_upd (o := .lst [.int (-1), .int (ds.length : Int), .int ((ds.length : Int) + 1), .int (-(ds.length : Int)), .bl true, .bl false, .non, S [48], S [], .ref p1, .ref p2, .int (10 ^ (30 : Int).toNat)]) np3
  have g3 : (upd G6 p3 (.lst [.int (-1), .int (ds.length : Int), .int ((ds.length : Int) + 1), .int (-(ds.length : Int)), .bl true, .bl false, .non, S [48], S [], .ref p1, .ref p2, .int (10 ^ (30 : Int).toNat)])) p3 = some (.lst [.int (-1), .int (ds.length : Int), .int ((ds.length : Int) + 1), .int (-(ds.length : Int)), .bl true, .bl false, .non, S [48], S [], .ref p1, .ref p2, .int (10 ^ (30 : Int).toNat)]) := upd_same
  generalize upd G6 p3 (.lst [.int (-1), .int (ds.length : Int), .int ((ds.length : Int) + 1), .int (-(ds.length : Int)), .bl true, .bl false, .non, S [48], S [], .ref p1, .ref p2, .int (10 ^ (30 : Int).toNat)]) = G7 at *
  have s8 := (s5.trans s6).trans s7
  have als : AtAll G7 [.int (-1), .int (ds.length : Int), .int ((ds.length : Int) + 1), .int (-(ds.length : Int)), .bl true, .bl false, .non, S [48], S [], .ref p1, .ref p2, .int (10 ^ (30 : Int).toNat)]
      [.int (-1), .int (ds.length : Int), .int ((ds.length : Int) + 1), .int (-(ds.length : Int)), .bool true, .bool false, .none, dS [48], dS [], .tuple [.int 0], .list [.int 0], .int (10 ^ (30 : Int).toNat)] :=
    .cons (.int _) (.cons (.int _) (.cons (.int _) (.cons (.int _) (.cons (.bl _) (.cons (.bl _) (.cons .non (.cons (.str _ (by decide)) (.cons (.str _ (by decide)) (.cons (At.mkTup ((s6.trans s7) _ _ g1) (.one (.int 0)) (by decide)) (.cons (At.mkLst (s7 _ _ g2) (.one (.int 0)) (by decide)) (.one (.int _))))))))))))
  have no : ∀ d ∈ [PyData.int (-1), .int (ds.length : Int), .int ((ds.length : Int) + 1), .int (-(ds.length : Int)), .bool true, .bool false, .none, dS [48], dS [], .tuple [.int 0], .list [.int 0], .int (10 ^ (30 : Int).toNat)], isIn d 0 ((xs.length : Int) - 1) = false ∧ PartD d := by
    have nI : ∀ i : Int, (i < 0 ∨ (ds.length : Int) ≤ i) → i.natAbs < 10 ^ 40 → isIn (.int i) 0 ((xs.length : Int) - 1) = false ∧ PartD (.int i) := fun i h k => by
      refine ⟨?_, rfl, Nat.zero_le _, Rp.int k⟩
      rw [isIn_int, ll]
      rcases h with h | h
      · rw [decide_eq_false (show ¬ 0 ≤ i by omega)]; rfl
      · rw [decide_eq_false (show ¬ i ≤ (ds.length : Int) - 1 by omega), Bool.and_false]
    have sm : ∀ n : Nat, n < 100 → n < 10 ^ 40 := fun n h => Nat.lt_trans h (by decide)
    intro d hd
    simp only [List.mem_cons, List.not_mem_nil, or_false] at hd
    rcases hd with rfl | rfl | rfl | rfl | rfl | rfl | rfl | rfl | rfl | rfl | rfl | rfl
    · exact nI _ (.inl (by decide)) (by decide)
    · exact nI _ (.inr (by omega)) (sm _ (by omega))
    · exact nI _ (.inr (by omega)) (sm _ (by omega))
    · exact nI _ (.inl (by omega)) (sm _ (by omega))
    · exact ⟨rfl, part_of (by decide +kernel)⟩
    · exact ⟨rfl, part_of (by decide +kernel)⟩
    · exact ⟨rfl, part_of (by decide +kernel)⟩
    · exact ⟨rfl, part_of (by decide +kernel)⟩
    · exact ⟨rfl, part_of (by decide +kernel)⟩
    · exact ⟨rfl, part_of (by decide +kernel)⟩
    · exact ⟨rfl, part_of (by decide +kernel)⟩
    · refine nI _ (.inr ?_) (by decide +kernel)
      have : (20 : Int) ≤ 10 ^ (30 : Int).toNat := by decide +kernel
      omega
  generalize ([.int (-1), .int (ds.length : Int), .int ((ds.length : Int) + 1), .int (-(ds.length : Int)), .bl true, .bl false, .non, S [48], S [], .ref p1, .ref p2, .int (10 ^ (30 : Int).toNat)] : List V) = zs at *
  generalize [PyData.int (-1), .int (ds.length : Int), .int ((ds.length : Int) + 1), .int (-(ds.length : Int)), .bool true, .bool false, .none, dS [48], dS [], .tuple [.int 0], .list [.int 0], .int (10 ^ (30 : Int).toNat)] = es at *
  refine i_forL (xs := zs) (.inl (.inl g3)) (fun i σ' G => ∃ v3, σ' = [some (.ref p), some (.ref u), some (.int (ds.length : Int)), v3, none, none] ∧ Same G7 G) ⟨none, rfl, Same.refl _⟩ ?_ ?_ ?_
  · rintro i σ' G _ ⟨v3, rfl, sg⟩
    exact .inl (.inl (sg _ _ g3))
  · rintro i v σ' G hv ⟨v3, rfl, sg⟩
    obtain ⟨d, hd, av⟩ := als.get hv
    obtain ⟨nd, pd⟩ := no d (List.mem_of_getElem? hd)
    have s10 := s8.trans sg
    refine (show tIfS (tNot (tB (tCall (sp2 (p_L_no_line C_Orders)) [] E0 (tCons (tVar 0) (tCons (tVar 3) tNil))))) (tRet (tC (V.bl false))) tNext _ [some (.ref p), some (.ref u), some (.int (ds.length : Int)), some v, none, none] G from ?_)
    walk_at "go"
    refine ⟨p, dx, t, xs, d, rfl, s10 _ _ hp, s10 _ _ hT, av.same sg, nd, pd, fun H' s11 => ?_⟩
    walk_at "go"
    exact ⟨_, rfl, sg.trans s11⟩
  · rintro σ' G ⟨v3, rfl, sg⟩
    walk_at "go"
    exact q _ (s8.trans sg)
end
end K42
namespace K42
open PySem PySem.Spec PyProof.Rows L2 Fg
local macro_rules | `(tactic| walk_at "sq") => `(tactic| first
  | assumption
  | exact .inl (.inl (by assumption))
  | exact .inl (.inl upd_same))
local macro_rules | `(tactic| walk_at "st") => `(tactic| first
  | assumption
  | exact .inl (.inl (by assumption))
  | exact .inl (.inl upd_same))
local macro_rules | `(tactic| walk_at "o") => `(tactic| first
  | omega
  | assumption
  | (simp only [List.length_append, List.length_take, List.length_drop, List.length_cons, List.length_nil, List.length_singleton, List.length_map, List.length_range, Int.toNat_natCast] ; omega))
local macro_rules | `(tactic| walk_at "s") => `(tactic| first
  | (with_reducible refine i_seq ?_)
  | (with_reducible refine i_asg ?_)
  | ((with_reducible refine' i_var ?h1 ?_); (case h1 => rfl))
  | (with_reducible refine i_c ?_)
  | ((with_reducible refine' i_gname' ?h1 ?_); (case h1 => (simp only [List.set_cons_zero, List.set_cons_succ]; rfl)))
  | (with_reducible refine i_op ?_)
  | (with_reducible refine i_ifS ?_)
  | (with_reducible refine i_for ?_)
  | (with_reducible refine i_test ?_)
  | (with_reducible refine i_B ?_)
  | (with_reducible refine i_exbl ?_)
  | (with_reducible refine i_exint ?_)
  | (with_reducible refine i_cb ?_)
  | (with_reducible refine i_nil ?_)
  | (with_reducible refine i_cons ?_)
  | (with_reducible refine i_ret ?_)
  | (with_reducible refine i_sl ?_)
  | (with_reducible refine i_nopart ?_)
  | (with_reducible refine i_part ?_)
  | (with_reducible refine i_add_int ?_)
  | (with_reducible refine i_sub ?_)
  | (with_reducible refine i_lt ?_)
  | ((with_reducible refine' i_mod ?h1 ?_); (case h1 => walk_at "o"))
  | ((with_reducible refine' i_fdiv ?h1 ?_); (case h1 => (refine cdiv_small ?_ ?_ <;> walk_at "o")))
  | ((with_reducible refine' i_sl_to ?h1 ?h2 ?_); (case h1 => walk_at "o"); (case h2 => walk_at "o"))
  | ((with_reducible refine' i_sl_from ?h1 ?h2 ?_); (case h1 => walk_at "o"); (case h2 => walk_at "o"))
  | ((with_reducible refine' i_add_str ?h1 ?_); (case h1 => walk_at "o"))
  | ((with_reducible refine' i_mul_int ?h1 ?_); (case h1 => first | (refine mul_small ?_ ?_ <;> walk_at "o") | (refine mul_smallR ?_ ?_ <;> walk_at "o")))
  | (with_reducible refine i_le ?_)
  | (with_reducible refine i_gt ?_)
  | (with_reducible refine i_ge ?_)
  | (with_reducible refine i_eq_int ?_)
  | (with_reducible refine i_eq_str ?_)
  | (with_reducible refine i_ne_int ?_)
  | (with_reducible refine i_ne_str ?_)
  | (with_reducible refine i_eq_bl ?_)
  | (with_reducible refine i_ne_bl ?_)
  | (with_reducible refine i_in_sg ?_)
  | (with_reducible refine i_notIn_sg ?_)
  | (with_reducible refine i_call ?_)
  | (with_reducible refine i_callS ?_)
  | (with_reducible refine i_sp1 ?_)
  | (with_reducible refine i_sp2 ?_)
  | (with_reducible refine i_sp3 ?_)
  | (with_reducible refine i_sp4 ?_)
  | (with_reducible refine i_sp1' ?_)
  | (with_reducible refine i_sp2' ?_)
  | (with_reducible refine i_sp3' ?_)
  | ((with_reducible refine' i_ix_lst ?h1 ?h2 ?_); (case h1 => walk_at "sq"); (case h2 => first | exact atI_nat rfl | rfl))
  | ((with_reducible refine' i_ix_tup ?h1 ?h2 ?_); (case h1 => walk_at "st"); (case h2 => first | exact atI_nat rfl | rfl))
  | (with_reducible refine i_gsub ?_)
  | (with_reducible refine i_par ?_)
  | (with_reducible refine i_lstRg1 ?_)
  | (with_reducible refine i_app ?_)
  | (with_reducible refine i_par2 ?_)
  | ((with_reducible refine' i_aug ?h1 ?_); (case h1 => rfl))
  | (with_reducible refine i_ipI ?_)
  | ((with_reducible refine' i_gtup2 ?h1 ?_); (case h1 => walk_at "st"))
  | (with_reducible refine i_int_bl ?_)
  | (with_reducible refine i_raise ?_)
  | (with_reducible refine i_mkE ?_)
  | (with_reducible refine i_ex1 ?_)
  | (with_reducible refine i_and ?_)
  | (with_reducible refine i_or ?_)
  | (with_reducible refine i_not ?_)
  | (with_reducible refine i_tt ?_)
  | (with_reducible refine i_ff ?_)
  | (with_reducible refine i_nott ?_)
  | (with_reducible refine i_notf ?_)
  | (with_reducible refine i_andV ?_)
  | (with_reducible refine i_orV ?_)
  | (with_reducible refine i_notV ?_)
  | (with_reducible refine i_ifE ?_)
  | (with_reducible refine i_tup ?_)
  | (with_reducible refine i_lst ?_)
  | (with_reducible refine i_un ?_)
  | (with_reducible refine i_neg ?_)
  | (with_reducible refine i_chain ?_)
  | (with_reducible refine i_next ?_)
  | (with_reducible refine i_retN ?_)
  | (with_reducible refine i_drop ?_)
  | (with_reducible refine i_int_int ?_)
  | (with_reducible refine i_abs ?_)
  | (with_reducible refine i_m1c ?_)
  | (with_reducible refine i_is_non ?_)
  | (with_reducible refine i_is_int ?_)
  | (with_reducible refine i_is_bl ?_)
  | (with_reducible refine i_isn_bl ?_)
  | (with_reducible refine i_is_str ?_)
  | (with_reducible refine i_is_ref ?_)
  | (with_reducible refine i_isn_non ?_)
  | (with_reducible refine i_isn_int ?_)
  | (with_reducible refine i_isn_str ?_)
  | (with_reducible refine i_isn_ref ?_)
  | (with_reducible refine i_len_str ?h1 ?_; (case h1 => walk_at "o"))
  | (with_reducible refine i_callD ?_)
  | (with_reducible refine i_spD2 ?_)
  | (with_reducible refine i_spM1 ?_)
  | (with_reducible refine i_spM2 ?_)
  | (with_reducible refine i_spM3 ?_)
  | (with_reducible refine i_spM4 ?_)
  | (with_reducible refine i_spM3d ?_)
  | (with_reducible refine i_tfld ?_)
  | (with_reducible refine i_sfld ?_)
  | (with_reducible refine i_meth ?_)
  | (with_reducible refine i_make ?_)
  | (with_reducible refine i_spl ?_)
  | (with_reducible refine i_mkE2 ?_)
  | (with_reducible refine i_ex2 ?_)
  | (with_reducible refine i_dget ?_)
  | (with_reducible refine i_tru ?_)
  | (with_reducible refine i_dput ?_)
  | (with_reducible refine i_dnotin ?_)
  | (with_reducible refine i_din ?_)
  | (with_reducible refine i_isi_int_int ?_) | (with_reducible refine i_isi_int_bool ?_) | (with_reducible refine i_isi_int_str ?_) | (with_reducible refine i_isi_int_tuple ?_) | (with_reducible refine i_isi_int_list ?_)
  | (with_reducible refine i_isi_bl_int ?_) | (with_reducible refine i_isi_bl_bool ?_) | (with_reducible refine i_isi_bl_str ?_) | (with_reducible refine i_isi_bl_tuple ?_) | (with_reducible refine i_isi_bl_list ?_)
  | (with_reducible refine i_isi_str_int ?_) | (with_reducible refine i_isi_str_bool ?_) | (with_reducible refine i_isi_str_str ?_) | (with_reducible refine i_isi_str_tuple ?_) | (with_reducible refine i_isi_str_list ?_)
  | (with_reducible refine i_isi_non_int ?_) | (with_reducible refine i_isi_non_bool ?_) | (with_reducible refine i_isi_non_str ?_) | (with_reducible refine i_isi_non_tuple ?_) | (with_reducible refine i_isi_non_list ?_))
local macro_rules | `(tactic| walk_at "go") => `(tactic| (repeat' (walk_at "s")))
local macro_rules | `(tactic| walk_at "n") => `(tactic| simp only [wipe, List.map_cons, List.map_nil, List.set_cons_zero, List.set_cons_succ])
theorem thD_deep {m : Int} {c : Nat} {d : PyData} (h : thD m c d = true) : deepD d = d := by
  unfold thD at h
  split at h
  · obtain ⟨i, rfl, _⟩ := isIn_is h; rfl
  split at h
  · obtain ⟨i, rfl, _⟩ := isIn_is h; rfl
  split at h
  · cases d <;> first
      | rfl
      | cases h
  · cases d <;> first
      | rfl
      | cases h
theorem allT_deep {m : Int} : ∀ {f : List Nat} {r : List PyData}, allT m f r = true → deepD.deepDs r = r
  | _, [], _ => rfl
  | c :: f, d :: r, h => by
    have h' : (thD m c d && allT m f r) = true := h
    rw [Bool.and_eq_true] at h'
    show deepD d :: deepD.deepDs r = d :: r
    rw [thD_deep h'.1, allT_deep h'.2]
  | [], _ :: _, h => by cases h
theorem formD_deep {d : PyData} {f : List Nat} (h : formD d = some f) : deepD d = d := by
  cases d with
  | str x => rfl
  | _ => cases h
theorem ordD_deep {m : Int} {w : PyData} {r : List PyData} (h : ordD m (deepD w) (deepD.deepDs r) = true) : deepD w = w ∧ deepD.deepDs r = r := by
  rw [ord_form] at h
  cases ef : formD w with
  | none => rw [ef] at h; cases h
  | some f =>
    rw [ef] at h
    exact ⟨formD_deep ef, allT_deep h⟩
theorem ord_seq {m : Int} {e : PyData} (h : isOrd m (deepD e) = true) : ∃ es, seqD e = some es ∧ deepD e = .tuple es := by
  have key : ∀ es, isOrd m (.tuple (deepD.deepDs es)) = true → deepD.deepDs es = es := fun es h => by
    cases es with
    | nil => rfl
    | cons w r =>
      obtain ⟨a, b⟩ := ordD_deep (m := m) (w := w) (r := r) h
      show deepD w :: deepD.deepDs r = w :: r
      rw [a, b]
  cases e with
  | list es => exact ⟨es, rfl, congrArg PyData.tuple (key es h)⟩
  | tuple es => exact ⟨es, rfl, congrArg PyData.tuple (key es h)⟩
  | _ => cases h
/-- what can be asked -/
structure AskD (d : PyData) : Prop where
  lay : d.canLay0 = true
  dep : d.depth ≤ 4
  rp : Rp 20000 d
  each : ∀ ds, seqD d = some ds → ∀ e ∈ ds, Rp 500 e
theorem rp_seq {m : Nat} {e : PyData} {es : List PyData} (h : Rp m e) (hs : seqD e = some es) : Rp m (.tuple es) := by
  cases e with
  | list ds =>
    cases hs
    obtain ⟨a, b, c⟩ := h
    exact ⟨by simpa only [PyData.showable] using a, by simpa only [PyData.leavesShort] using b, by simpa only [PyData.bulk] using c⟩
  | tuple ds => cases hs; exact h
  | _ => cases hs
theorem bad_no {d : PyData} (h : badO (deepD d) = none) : ∃ ds, seqD d = some ds ∧ deepD d = .tuple (deepD.deepDs ds) ∧ 1 ≤ ds.length ∧ ds.length ≤ 20 ∧ ∀ e ∈ ds, isOrd ds.length (deepD e) = true := by
  have key : ∀ ds, badO (.tuple (deepD.deepDs ds)) = none → 1 ≤ ds.length ∧ ds.length ≤ 20 ∧ ∀ e ∈ ds, isOrd ds.length (deepD e) = true := fun ds h => by
    have h' : (if 1 ≤ (deepD.deepDs ds).length ∧ (deepD.deepDs ds).length ≤ 20 then (badOAt (deepD.deepDs ds).length (deepD.deepDs ds)).map fun n : Nat => (n : Int) else some (-1)) = none := h
    rw [deeps_len] at h'
    split at h'
    · rename_i hl
      refine ⟨hl.1, hl.2, fun e he => ?_⟩
      have h2 := Option.map_eq_none_iff.mp h'
      unfold badOAt at h2
      rw [List.findIdx?_eq_none_iff] at h2
      have := h2 (deepD e) (by rw [deepDs_map]; exact List.mem_map_of_mem he)
      simpa using this
    · cases h'
  cases d with
  | list ds => exact ⟨ds, rfl, rfl, key ds h⟩
  | tuple ds => exact ⟨ds, rfl, rfl, key ds h⟩
  | _ => cases h
theorem AskD.told {d : PyData} {ds : List PyData} (h : AskD d) (hs : seqD d = some ds) (l1 : 1 ≤ ds.length) (l2 : ds.length ≤ 20) (ok : ∀ e ∈ ds, isOrd ds.length (deepD e) = true) : TellD (deepD.deepDs ds) := by
  have lay : PyData.canLayAll0 ds = true := by
    have := h.lay
    cases d <;> first
      | (cases hs; simpa only [PyData.canLay0] using this)
      | cases hs
  have dep : PyData.depthAll ds + 1 ≤ 4 := by
    have := h.dep
    cases d <;> first
      | (cases hs; exact this)
      | cases hs
  refine ⟨by rw [deep_lays]; exact lay, by rw [deep_deps]; omega, fun e he => ?_, by rw [deeps_len]; exact ⟨l1, l2⟩⟩
  rw [deepDs_map] at he
  obtain ⟨c, hc, rfl⟩ := List.mem_map.mp he
  obtain ⟨es, s1, s2⟩ := ord_seq (ok c hc)
  rw [s2]
  exact rp_seq (h.each ds hs c hc) s1
theorem badO_rng {d : PyData} {n : Int} (h : badO d = some n) : n.natAbs < 10 ^ 40 := by
  have key : n = -1 ∨ (0 ≤ n ∧ n ≤ 20) := by
    cases d with
    | tuple ds =>
      have h' : (if 1 ≤ ds.length ∧ ds.length ≤ 20 then (badOAt ds.length ds).map fun n : Nat => (n : Int) else some (-1)) = some n := h
      split at h'
      · obtain ⟨k, hk, e⟩ := Option.map_eq_some_iff.mp h'
        unfold badOAt at hk
        rw [List.findIdx?_eq_some_iff_getElem] at hk
        obtain ⟨hp, _⟩ := hk
        exact .inr (by omega)
      · cases h'; exact .inl rfl
    | _ => cases h; exact .inl rfl
  have : n.natAbs ≤ 20 := by omega
  exact Nat.lt_of_le_of_lt this (by decide)
section
variable {K : PySem.W.Frag} {σ : L2.St} {A G : Hp} {Q : VK} {te tl : TE} {j : Nat} {a : Addr} {xs : List V} {vs : List Nat} {v : V} {d : PyData}
theorem c_seqD {ds : List PyData} (sa : Same A G) (ha : ∀ R : VK, R (.ref a) G → tl σ G R) (hx : G a = some (.lst xs) ∨ G a = some (.tup xs)) (hd : AtAll A xs ds) (hn : xs.length ≤ 10000) (f : PyData → PyData) (hw : ∀ x, wipe ((wipe σ vs).set j (some x)) vs = wipe σ vs)
    (he : ∀ x d A1 G1, d ∈ ds → At A1 x d → Ext A G A1 G1 → ∀ QV : VK, (∀ A2 G2 v, Ext A1 G1 A2 G2 → At A2 v (f d) → QV v G2) → te ((wipe σ vs).set j (some x)) G1 QV)
    (q : ∀ Dl A1 G1 l, Ext A G A1 G1 → G1 Dl = some (.lst l) → A1 Dl = some (.lst l) → AtAll A1 l (ds.map f) → l.length = ds.length → Q (.ref Dl) G1) : tLc (iAny K tl) (gName j) tYes te vs σ G Q :=
  hx.elim (fun h => c_lstD sa ha (.inl (.inl h)) hd hn f hw he q) (fun h => c_tupD sa ha (.inl (.inl h)) hd hn f hw he q)
/-- tuple(v), v a list or a tuple -/
theorem i_tupleAt {es : List PyData} (sa : Same A G) (h : At A v d) (hs : seqD d = some es) (q : ∀ A2 G2 w, Ext A G A2 G2 → At A2 w (.tuple es) → Q w G2) : rTupP K [v] G Q := by
  obtain ⟨a, xs, rfl, hl, al, hx⟩ := seq_at h hs
  rcases hx with hx | hx
  · refine ⟨a, xs, rfl, .inl ⟨.inl (.inl (sa _ _ hx)), fun l nl => ?_⟩⟩
    exact q _ _ _ ((Ext.refl sa).new nl) (At.mkTup upd_same (al.same (same_upd (sa.free nl))) (by rw [← al.len]; exact hl))
  · exact ⟨a, xs, rfl, .inr ⟨.inl (.inl (sa _ _ hx)), q A G _ (Ext.refl sa) (At.mkTup hx al (by rw [← al.len]; exact hl))⟩⟩
end
section
variable {P : Program} {w : World} {K : PySem.W.Frag} {mg : Str → Option Value} {base : Heap} {C_GlimError C_BadOrder C_BadReader C_NoLine C_Orders : Addr}
def p_L_asked (C : Addr) : P1 := fun x H Q _ => ∃ d, At H x d ∧ AskD d ∧ ∀ H', Same H H' → Q (.bl true) H'
theorem ok_L_asked (T : Txt K mg C_GlimError C_BadOrder C_BadReader C_NoLine C_Orders) : GOK P w K mg base CX0 10 "_law_asked" ["_law_handed"] (sp1  (p_L_asked C_Orders)) := by
  refine GOK.mk (k := 9) T.d_L_asked sc_L_asked len1 fun f cdv A outer s H vs Q E hgu hr h => ?_
  obtain ⟨x, rfl, h⟩ := h
  refine ⟨_, (pss_cons (ps_set (i := 1) sc_L_asked.nd rfl (Or.inl rfl) (pe_callB (Fg.cReprA K hgu hr.units) (by rfl) T.b_repr (by decide +kernel) (pa_cons (pv 0) pa_nil))) (pss_cons (ps_set (i := 2) sc_L_asked.nd rfl (Or.inl rfl) (pe_f (ok_L_due (K := K) T) (hr.mono (by decide)) pass0 (pa_cons (pv 0) pa_nil))) (pss_cons (ps_set (i := 3) sc_L_asked.nd rfl (Or.inl rfl) (pe_f (ok_L_tried (K := K) T) (hr.mono (by decide)) pass0 (pa_cons (pv 0) pa_nil))) (pss_cons (ps_if (pt_cmpR (opNe K hr.units) (pe_callB (Fg.cReprA K hgu hr.units) (by rfl) T.b_repr (by decide +kernel) (pa_cons (pv 0) pa_nil)) (pv 1) (nomark _)) (pss_one (ps_ret pe_bl)) pss_nil) (pss_cons (ps_if (pt_cmpR op_isP (pv 2) pe_non (nomark _)) (pss_cons (ps_set (i := 4) sc_L_asked.nd rfl (Or.inl rfl) (pe_callTy (cTup K) (by rfl) T.b_tuple (by decide +kernel) (pa_cons (pe_lc (own := [("_law_line", 5)]) (g := gName 5) (tt := tYes) (by rfl) sc_L_asked.nd (piAny K (pv 0)) (blkOk_by (own := [("_law_line", 5)]) (N := ["_law_handed", "_law_before", "_law_due_here", "_law_told", "_law_lines", "_law_line"]) (sc := (defScope s_L_asked)) (by decide +kernel)) (fun _ _ _ _ _ => (pg_name (i := 5) sc_L_asked.nd rfl (Or.inl rfl))) (fun _ _ _ _ _ => pts_nil) (fun _ _ _ _ _ => (pe_callTy (cTup K) (by rfl) T.b_tuple (by decide +kernel) (pa_cons (pv 5) pa_nil)))) pa_nil))) (pss_one (ps_ret (pe_and (pe_cmpR (opEq K hr.units) (pe_ix (ixK K) (pv 3) pe_int (fun _ _ => rfl)) (pe_S [109, 97, 100, 101]) (nomark _)) (pe_one (pe_g (ok_L_tells (K := K) T) hgu (hr.mono (by decide)) pass0 (pa_cons (pe_ix (ixK K) (pv 3) pe_int (fun _ _ => rfl)) (pa_cons (pv 4) pa_nil)))))))) pss_nil) (pss_one (ps_ret (pe_and (pe_cmpR (opEq K hr.units) (pe_ix (ixK K) (pv 3) pe_int (fun _ _ => rfl)) (pe_S [114, 101, 102, 117, 115, 101, 100]) (nomark _)) (pe_one (pe_cmpR (opEq K hr.units) (pe_callB (Fg.cReprA K hgu hr.units) (by rfl) T.b_repr (by decide +kernel) (pa_cons (pe_ix (ixK K) (pv 3) pe_int (fun _ _ => rfl)) pa_nil)) (pe_callB (Fg.cReprA K hgu hr.units) (by rfl) T.b_repr (by decide +kernel) (pa_cons (pv 2) pa_nil)) (nomark _))))))))))), ?_⟩
  show (_ : TS) { nx := fun _ H' => Q .non H', rt := Q } [some x, none, none, none, none, none] H
  obtain ⟨d, hx, ad, q⟩ := h
  have nd := PyData.hasDict_of_canLay _ ad.lay
  have dp := ad.dep
  walk_at "go"
  refine i_reprA hx ad.rp (by decide) nd (by omega) ?_
  walk_at "go"
  refine ⟨d, hx, ad.lay, fun H1 s1 => ?_⟩
  walk_at "go"
  refine ⟨H1, d, Same.refl _, hx.same s1, by omega, ad.lay, ?_⟩
  cases eb : badO (deepD d) with
  | some n =>
    intro A2 H2 r x2 hr
    have s2 := s1.trans x2.gg
    have rr := x2.ag _ _ hr
    walk_at "go"
    refine i_reprA (hx.same s2) ad.rp (by decide) nd (by omega) ?_
    walk_at "go"
    refine i_ne_same ?_
    unfold optV
    walk_at "go"
    rw [decide_eq_true (show cRefd = [114, 101, 102, 117, 115, 101, 100] from rfl), if_pos rfl]
    walk_at "go"
    refine i_reprA (.int n) (m := 0) (Rp.int (badO_rng eb)) (by decide) rfl (Nat.zero_le _) ?_
    walk_at "go"
    refine i_reprA (.int n) (m := 0) (Rp.int (badO_rng eb)) (by decide) rfl (Nat.zero_le _) ?_
    refine i_eq_same ?_
    exact q _ s2
  | none =>
    intro A2 H2 r p dx t es x2 hr hp ed ht
    obtain ⟨ds, hs, ed2, l1, l2, ok⟩ := bad_no eb
    have td := ad.told hs l1 l2 ok
    rw [ed] at ed2
    cases ed2
    have s2 := s1.trans x2.gg
    have rr := x2.ag _ _ hr
    walk_at "go"
    refine i_reprA (hx.same s2) ad.rp (by decide) nd (by omega) ?_
    walk_at "go"
    refine i_ne_same ?_
    unfold optV
    walk_at "go"
    obtain ⟨a, xs, rfl, hl, al, hq⟩ := seq_at hx hs
    have s3 : Same H A2 := s1.trans x2.aa
    refine c_seqD x2.ag (fun R k => by walk_at "go"; exact k) (hq.imp (s2 _ _) (s2 _ _)) (al.same s3) hl deepD (fun _ => rfl) (fun v e A3 G3 he av x3 QV k => ?_) (fun Dl A3 G3 l x3 gl al3 atl len => ?_)
    · obtain ⟨es, hes, ee⟩ := ord_seq (ok e he)
      rw [ee] at k
      walk_at "go"
      exact i_tupleAt x3.ag av hes k
    · rw [← deepDs_map] at atl
      have s4 := s2.trans x3.gg
      walk_at "go"
      refine i_tuple_lst (.inl (.inl gl)) fun u nu => ?_
      have s5 := same_upd (o := .tup l) nu
      have s35 := x3.gg.trans s5
      have r5 := s35 _ _ rr
      have p5 := s35 _ _ (x2.ag _ _ hp)
      have t5 := (ht.same x2.ag).same s35
      have u5 := At.mkTup (upd_same (a := u) (o := .tup l) (H := G3)) ((atl.same x3.ag).same s5) (by have := td.len.2; omega)
      have s6 := s4.trans s5
      generalize upd G3 u (.tup l) = G5 at *
      walk_at "go"
      rw [decide_eq_true (show cMade = [109, 97, 100, 101] from rfl), if_pos rfl]
      walk_at "go"
      exact ⟨p, dx, t, u, _, rfl, rfl, p5, t5, u5, td, fun H' s7 => q _ (s6.trans s7)⟩
end
end K42
namespace K42
open PySem PySem.Spec PyProof.Rows L2 Fg
local macro_rules | `(tactic| walk_at "sq") => `(tactic| first
  | assumption
  | exact .inl (.inl (by assumption))
  | exact .inl (.inl upd_same))
local macro_rules | `(tactic| walk_at "st") => `(tactic| first
  | assumption
  | exact .inl (.inl (by assumption))
  | exact .inl (.inl upd_same))
local macro_rules | `(tactic| walk_at "o") => `(tactic| first
  | omega
  | assumption
  | (simp only [List.length_append, List.length_take, List.length_drop, List.length_cons, List.length_nil, List.length_singleton, List.length_map, List.length_range, Int.toNat_natCast] ; omega))
local macro_rules | `(tactic| walk_at "s") => `(tactic| first
  | (with_reducible refine i_seq ?_)
  | (with_reducible refine i_asg ?_)
  | ((with_reducible refine' i_var ?h1 ?_); (case h1 => rfl))
  | (with_reducible refine i_c ?_)
  | ((with_reducible refine' i_gname' ?h1 ?_); (case h1 => (simp only [List.set_cons_zero, List.set_cons_succ]; rfl)))
  | (with_reducible refine i_op ?_)
  | (with_reducible refine i_ifS ?_)
  | (with_reducible refine i_for ?_)
  | (with_reducible refine i_test ?_)
  | (with_reducible refine i_B ?_)
  | (with_reducible refine i_exbl ?_)
  | (with_reducible refine i_exint ?_)
  | (with_reducible refine i_cb ?_)
  | (with_reducible refine i_nil ?_)
  | (with_reducible refine i_cons ?_)
  | (with_reducible refine i_ret ?_)
  | (with_reducible refine i_sl ?_)
  | (with_reducible refine i_nopart ?_)
  | (with_reducible refine i_part ?_)
  | (with_reducible refine i_add_int ?_)
  | (with_reducible refine i_sub ?_)
  | (with_reducible refine i_lt ?_)
  | ((with_reducible refine' i_mod ?h1 ?_); (case h1 => walk_at "o"))
  | ((with_reducible refine' i_fdiv ?h1 ?_); (case h1 => (refine cdiv_small ?_ ?_ <;> walk_at "o")))
  | ((with_reducible refine' i_sl_to ?h1 ?h2 ?_); (case h1 => walk_at "o"); (case h2 => walk_at "o"))
  | ((with_reducible refine' i_sl_from ?h1 ?h2 ?_); (case h1 => walk_at "o"); (case h2 => walk_at "o"))
  | ((with_reducible refine' i_add_str ?h1 ?_); (case h1 => walk_at "o"))
  | ((with_reducible refine' i_mul_int ?h1 ?_); (case h1 => first | (refine mul_small ?_ ?_ <;> walk_at "o") | (refine mul_smallR ?_ ?_ <;> walk_at "o")))
  | (with_reducible refine i_le ?_)
  | (with_reducible refine i_gt ?_)
  | (with_reducible refine i_ge ?_)
  | (with_reducible refine i_eq_int ?_)
  | (with_reducible refine i_eq_str ?_)
  | (with_reducible refine i_ne_int ?_)
  | (with_reducible refine i_ne_str ?_)
  | (with_reducible refine i_eq_bl ?_)
  | (with_reducible refine i_ne_bl ?_)
  | (with_reducible refine i_in_sg ?_)
  | (with_reducible refine i_notIn_sg ?_)
  | (with_reducible refine i_call ?_)
  | (with_reducible refine i_callS ?_)
  | (with_reducible refine i_sp1 ?_)
  | (with_reducible refine i_sp2 ?_)
  | (with_reducible refine i_sp3 ?_)
  | (with_reducible refine i_sp4 ?_)
  | (with_reducible refine i_sp1' ?_)
  | (with_reducible refine i_sp2' ?_)
  | (with_reducible refine i_sp3' ?_)
  | ((with_reducible refine' i_ix_lst ?h1 ?h2 ?_); (case h1 => walk_at "sq"); (case h2 => first | exact atI_nat rfl | rfl))
  | ((with_reducible refine' i_ix_tup ?h1 ?h2 ?_); (case h1 => walk_at "st"); (case h2 => first | exact atI_nat rfl | rfl))
  | (with_reducible refine i_gsub ?_)
  | (with_reducible refine i_par ?_)
  | (with_reducible refine i_lstRg1 ?_)
  | (with_reducible refine i_app ?_)
  | (with_reducible refine i_par2 ?_)
  | ((with_reducible refine' i_aug ?h1 ?_); (case h1 => rfl))
  | (with_reducible refine i_ipI ?_)
  | ((with_reducible refine' i_gtup2 ?h1 ?_); (case h1 => walk_at "st"))
  | (with_reducible refine i_int_bl ?_)
  | (with_reducible refine i_raise ?_)
  | (with_reducible refine i_mkE ?_)
  | (with_reducible refine i_ex1 ?_)
  | (with_reducible refine i_and ?_)
  | (with_reducible refine i_or ?_)
  | (with_reducible refine i_not ?_)
  | (with_reducible refine i_tt ?_)
  | (with_reducible refine i_ff ?_)
  | (with_reducible refine i_nott ?_)
  | (with_reducible refine i_notf ?_)
  | (with_reducible refine i_andV ?_)
  | (with_reducible refine i_orV ?_)
  | (with_reducible refine i_notV ?_)
  | (with_reducible refine i_ifE ?_)
  | (with_reducible refine i_tup ?_)
  | (with_reducible refine i_lst ?_)
  | (with_reducible refine i_un ?_)
  | (with_reducible refine i_neg ?_)
  | (with_reducible refine i_chain ?_)
  | (with_reducible refine i_next ?_)
  | (with_reducible refine i_retN ?_)
  | (with_reducible refine i_drop ?_)
  | (with_reducible refine i_int_int ?_)
  | (with_reducible refine i_abs ?_)
  | (with_reducible refine i_m1c ?_)
  | (with_reducible refine i_is_non ?_)
  | (with_reducible refine i_is_int ?_)
  | (with_reducible refine i_is_bl ?_)
  | (with_reducible refine i_isn_bl ?_)
  | (with_reducible refine i_is_str ?_)
  | (with_reducible refine i_is_ref ?_)
  | (with_reducible refine i_isn_non ?_)
  | (with_reducible refine i_isn_int ?_)
  | (with_reducible refine i_isn_str ?_)
  | (with_reducible refine i_isn_ref ?_)
  | (with_reducible refine i_len_str ?h1 ?_; (case h1 => walk_at "o"))
  | (with_reducible refine i_callD ?_)
  | (with_reducible refine i_spD2 ?_)
  | (with_reducible refine i_spM1 ?_)
  | (with_reducible refine i_spM2 ?_)
  | (with_reducible refine i_spM3 ?_)
  | (with_reducible refine i_spM4 ?_)
  | (with_reducible refine i_spM3d ?_)
  | (with_reducible refine i_tfld ?_)
  | (with_reducible refine i_sfld ?_)
  | (with_reducible refine i_meth ?_)
  | (with_reducible refine i_make ?_)
  | (with_reducible refine i_spl ?_)
  | (with_reducible refine i_mkE2 ?_)
  | (with_reducible refine i_ex2 ?_)
  | (with_reducible refine i_dget ?_)
  | (with_reducible refine i_tru ?_)
  | (with_reducible refine i_dput ?_)
  | (with_reducible refine i_dnotin ?_)
  | (with_reducible refine i_din ?_)
  | (with_reducible refine i_isi_int_int ?_) | (with_reducible refine i_isi_int_bool ?_) | (with_reducible refine i_isi_int_str ?_) | (with_reducible refine i_isi_int_tuple ?_) | (with_reducible refine i_isi_int_list ?_)
  | (with_reducible refine i_isi_bl_int ?_) | (with_reducible refine i_isi_bl_bool ?_) | (with_reducible refine i_isi_bl_str ?_) | (with_reducible refine i_isi_bl_tuple ?_) | (with_reducible refine i_isi_bl_list ?_)
  | (with_reducible refine i_isi_str_int ?_) | (with_reducible refine i_isi_str_bool ?_) | (with_reducible refine i_isi_str_str ?_) | (with_reducible refine i_isi_str_tuple ?_) | (with_reducible refine i_isi_str_list ?_)
  | (with_reducible refine i_isi_non_int ?_) | (with_reducible refine i_isi_non_bool ?_) | (with_reducible refine i_isi_non_str ?_) | (with_reducible refine i_isi_non_tuple ?_) | (with_reducible refine i_isi_non_list ?_))
local macro_rules | `(tactic| walk_at "go") => `(tactic| (repeat' (walk_at "s")))
local macro_rules | `(tactic| walk_at "n") => `(tactic| simp only [wipe, List.map_cons, List.map_nil, List.set_cons_zero, List.set_cons_succ])
/-! ### good lines -/
structure LineOK (m : Int) (es : List PyData) : Prop where
  ok : isOrd m (.tuple es) = true
  fl : ∀ e ∈ es, PartF e
  len : es.length ≤ 4
structure GoodL (m : Int) (gs : List (List PyData)) : Prop where
  each : ∀ es ∈ gs, LineOK m es
  one : 1 ≤ gs.length
  most : gs.length ≤ 20
abbrev T (gs : List (List PyData)) : List PyData := gs.map .tuple
theorem isIn_mono {d : PyData} {m n : Int} (k : m ≤ n) (h : isIn d 0 (m - 1) = true) : isIn d 0 (n - 1) = true := by
  obtain ⟨i, rfl, h0, h1⟩ := isIn_is h
  rw [isIn_int, decide_eq_true h0, decide_eq_true (by omega)]; rfl
theorem ordD_mono {m n : Int} (k : m ≤ n) {w : PyData} {r : List PyData} (h : ordD m w r = true) : ordD n w r = true := by
  unfold ordD at h ⊢
  split at h
  · rwa [if_pos ‹_›]
  rw [if_neg ‹_›]
  split at h
  · rwa [if_pos ‹_›]
  rw [if_neg ‹_›]
  split at h
  · rwa [if_pos ‹_›]
  rw [if_neg ‹_›]
  split at h
  · rw [if_pos ‹_›]
    match r, h with
    | [a, b], h =>
      have h' : (isIn a 1 9 && isIn b 0 (m - 1)) = true := h
      rw [Bool.and_eq_true] at h'
      show (isIn a 1 9 && isIn b 0 (n - 1)) = true
      rw [h'.1, isIn_mono k h'.2]; rfl
  rw [if_neg ‹_›]
  split at h
  · rw [if_pos ‹_›]
    match r, h with
    | [a, b], h =>
      have h' : (isSgs a && isIn b 0 (m - 1)) = true := h
      rw [Bool.and_eq_true] at h'
      show (isSgs a && isIn b 0 (n - 1)) = true
      rw [h'.1, isIn_mono k h'.2]; rfl
  rw [if_neg ‹_›]
  split at h
  · rw [if_pos ‹_›]
    match r, h with
    | [a], h =>
      exact isIn_mono k h
  rw [if_neg ‹_›]
  exact h
theorem isOrd_mono {m n : Int} (k : m ≤ n) {d : PyData} (h : isOrd m d = true) : isOrd n d = true := by
  cases d with
  | tuple ds =>
    cases ds with
    | nil => cases h
    | cons w r => exact ordD_mono k h
  | _ => cases h
theorem LineOK.mono {m n : Int} {es : List PyData} (h : LineOK m es) (k : m ≤ n) : LineOK n es := ⟨isOrd_mono k h.ok, h.fl, h.len⟩
theorem PartF.deep {e : PyData} (h : PartF e) : deepD e = e := by
  rcases h with ⟨l, rfl, _, _⟩ | ⟨i, rfl, _, _⟩ <;> rfl
theorem PartF.noL {e : PyData} (h : PartF e) : noL e = true := by
  rcases h with ⟨l, rfl, _, _⟩ | ⟨i, rfl, _, _⟩ <;> rfl
theorem deeps_id {ds : List PyData} (h : ∀ d ∈ ds, deepD d = d) : deepD.deepDs ds = ds := by
  rw [deepDs_map]
  exact (List.map_congr_left h).trans (List.map_id _)
theorem parts_deep {es : List PyData} (h : ∀ e ∈ es, PartF e) : deepD.deepDs es = es := deeps_id fun e he => (h e he).deep
theorem lays_of {ds : List PyData} (h : ∀ d ∈ ds, d.canLay0 = true) : PyData.canLayAll0 ds = true := by
  induction ds with
  | nil => rfl
  | cons d r ih =>
    simp only [PyData.canLayAll0, h d (List.mem_cons_self ..), ih fun e he => h e (List.mem_cons_of_mem _ he), Bool.and_self]
theorem deps_of {ds : List PyData} {n : Nat} (h : ∀ d ∈ ds, d.depth ≤ n) : PyData.depthAll ds ≤ n := by
  induction ds with
  | nil => exact Nat.zero_le _
  | cons d r ih =>
    have h1 := h d (List.mem_cons_self ..)
    have h2 := ih fun e he => h e (List.mem_cons_of_mem _ he)
    show max d.depth (PyData.depthAll r) ≤ n
    omega
theorem LineOK.lay {m : Int} {es : List PyData} (h : LineOK m es) : (PyData.tuple es).canLay0 = true := by
  simp only [PyData.canLay0]
  exact lays_of fun e he => (h.fl e he).part.lay
theorem LineOK.dep {m : Int} {es : List PyData} (h : LineOK m es) : (PyData.tuple es).depth ≤ 2 := by
  show PyData.depthAll es + 1 ≤ 2
  have := deps_of (n := 1) fun e he => (h.fl e he).part.dep
  omega
theorem LineOK.rp {m : Int} {es : List PyData} (h : LineOK m es) : Rp 500 (.tuple es) := (Rp.tuple fun e he => (h.fl e he).part.rp).mono (by have := h.len; omega)
theorem LineOK.rpL {m : Int} {es : List PyData} (h : LineOK m es) : Rp 500 (.list es) := (Rp.list fun e he => (h.fl e he).part.rp).mono (by have := h.len; omega)
theorem LineOK.noL {m : Int} {es : List PyData} (h : LineOK m es) : noL (.tuple es) = true := noLs_of fun e he => (h.fl e he).noL
theorem LineOK.deep {m : Int} {es : List PyData} (h : LineOK m es) : deepD (.tuple es) = .tuple es := congrArg PyData.tuple (parts_deep h.fl)
section
variable {m : Int} {gs : List (List PyData)}
theorem GoodL.mem (h : GoodL m gs) {d : PyData} (hd : d ∈ T gs) : ∃ es, d = .tuple es ∧ LineOK m es := by
  obtain ⟨es, he, rfl⟩ := List.mem_map.mp hd
  exact ⟨es, rfl, h.each es he⟩
theorem GoodL.lays (h : GoodL m gs) : PyData.canLayAll0 (T gs) = true := lays_of fun d hd => by
  obtain ⟨es, rfl, l⟩ := h.mem hd
  exact l.lay
theorem GoodL.lay (h : GoodL m gs) : (PyData.tuple (T gs)).canLay0 = true := by
  simp only [PyData.canLay0]
  exact h.lays
theorem GoodL.deps (h : GoodL m gs) : PyData.depthAll (T gs) ≤ 2 := deps_of fun d hd => by
  obtain ⟨es, rfl, l⟩ := h.mem hd
  exact l.dep
theorem GoodL.dep (h : GoodL m gs) : (PyData.tuple (T gs)).depth ≤ 3 := by
  have := h.deps
  show PyData.depthAll (T gs) + 1 ≤ 3
  omega
theorem GoodL.tell (h : GoodL m gs) : TellD (T gs) := ⟨h.lays, by have := h.deps; omega, fun d hd => by
  obtain ⟨es, rfl, l⟩ := h.mem hd
  exact l.rp, by have := h.one; have := h.most; rw [List.length_map]; omega⟩
theorem GoodL.noLs (h : GoodL m gs) : noLs (T gs) = true := noLs_of fun d hd => by
  obtain ⟨es, rfl, l⟩ := h.mem hd
  exact l.noL
theorem GoodL.noL (h : GoodL m gs) : noL (.tuple (T gs)) = true := h.noLs
theorem GoodL.deep (h : GoodL m gs) : deepD (.tuple (T gs)) = .tuple (T gs) := congrArg PyData.tuple (deeps_id fun d hd => by
  obtain ⟨es, rfl, l⟩ := h.mem hd
  exact l.deep)
theorem GoodL.bad (h : GoodL (gs.length : Int) gs) : badO (deepD (.tuple (T gs))) = none := by
  rw [h.deep]
  have h1 := h.one
  have h2 := h.most
  show (if 1 ≤ (T gs).length ∧ (T gs).length ≤ 20 then (badOAt (T gs).length (T gs)).map fun n : Nat => (n : Int) else some (-1)) = none
  rw [if_pos (by rw [List.length_map]; omega), badO_none (fun k hk c hc => ?_)]
  · rfl
  · obtain ⟨es, rfl, l⟩ := h.mem (List.mem_of_getElem? hc)
    rw [List.length_map]
    exact l.ok
end
theorem eqv_len {xs ys : List PyData} (h : xs.length ≠ ys.length) : PyData.eqv (.tuple xs) (.tuple ys) = false := by
  show PyData.eqvAll xs ys = false
  exact PySem.SeqAt.eqvAll_other_length h
section
variable {P : Program} {w : World} {K : PySem.W.Frag} {mg : Str → Option Value} {base : Heap} {C_GlimError C_BadOrder C_BadReader C_NoLine C_Orders : Addr}
/-- an instance stands, and tells these lines -/
structure Tells (C : Addr) (H : Hp) (p : Addr) (gs : List (List PyData)) : Prop where
  at_ : ∃ dx t, H p = some (.ins C dx (OF t)) ∧ At H (.ref t) (.tuple (T gs))
theorem Tells.same {C : Addr} {H H' : Hp} {p : Addr} {gs : List (List PyData)} (h : Tells C H p gs) (s : Same H H') : Tells C H' p gs := by
  obtain ⟨dx, t, a, b⟩ := h.at_
  exact ⟨dx, t, s _ _ a, b.same s⟩
theorem mk_good {C CB : Addr} {G : Hp} {y : V} {gs : List (List PyData)} {Q : VK} {E : XK} (g : GoodL (gs.length : Int) gs) (hy : At G y (.tuple (T gs))) (q : ∀ p H', Same G H' → Tells C H' p gs → Q (.ref p) H') {p dx : Addr} (np : G p = none) (ndx : G dx = none) (ne : dx ≠ p) :
    p_init C CB (.ref p) y (upd (upd G dx (.own p)) p (.ins C dx [])) (fun v H2 => v = .non ∧ Q (.ref p) H2) E := by
  have sH : Same G (upd (upd G dx (.own p)) p (.ins C dx [])) := (same_upd ndx).trans (same_upd ((upd_ne ne.symm).trans np))
  refine ⟨G, p, dx, _, rfl, sH, np, upd_same, hy, by have := g.dep; omega, g.lay, ?_⟩
  rw [g.bad]
  intro A1 H1 t ds ed s1 s2 b nw n1 hp at1
  rw [g.deep] at ed
  cases ed
  obtain ⟨x1, s3⟩ := made_ext (Same.refl G) np ndx ne s1 s2 b nw n1 hp
  exact ⟨rfl, q p H1 x1.gg ⟨dx, t, hp, at1.same s2⟩⟩
theorem eq_good {C : Addr} {H : Hp} {p p2 : Addr} {gs hs : List (List PyData)} {m n : Int} {Q : VK} {E : XK} (h : Tells C H p gs) (h2 : Tells C H p2 hs) (g : GoodL m gs) (g2 : GoodL n hs) (q : Q (.bl (PyData.eqv (.tuple (T gs)) (.tuple (T hs)))) H) : p_eq C (.ref p) (.ref p2) H Q E := by
  obtain ⟨dx, t, a, b⟩ := h.at_
  obtain ⟨dx2, t2, a2, b2⟩ := h2.at_
  exact ⟨p, dx, t, _, rfl, a, b, g.lay, by have := g.dep; omega, .inl ⟨p2, dx2, t2, _, rfl, a2, b2, g2.lay, by have := g2.dep; omega, q⟩⟩
theorem ne_good {C : Addr} {H : Hp} {p b : Addr} {ys : List V} {gs : List (List PyData)} {m : Int} {Q : VK} {E : XK} (h : Tells C H p gs) (g : GoodL m gs) (hb : H b = some (.tup ys)) (q : Q (.bl false) H) : p_eq C (.ref p) (.ref b) H Q E := by
  obtain ⟨dx, t, a, b'⟩ := h.at_
  exact ⟨p, dx, t, _, rfl, a, b', g.lay, by have := g.dep; omega, .inr ⟨b, ys, rfl, hb, q⟩⟩
theorem tells_good {C : Addr} {H : Hp} {p u : Addr} {gs : List (List PyData)} {m : Int} {Q : VK} {E : XK} (h : Tells C H p gs) (g : GoodL m gs) (hu : At H (.ref u) (.tuple (T gs))) (q : ∀ H', Same H H' → Q (.bl true) H') : p_L_tells C (.ref p) (.ref u) H Q E := by
  obtain ⟨dx, t, a, b⟩ := h.at_
  exact ⟨p, dx, t, u, _, rfl, rfl, a, b, hu, g.tell, q⟩
theorem Dr.max {d : Dd} {Hk H : Hp} (h : Dr K d Hk H) : Dr K d (wo H d.a) H :=
  h.know (fun b o e => by rw [wo_ne (ne_of_none e h.2.1)]; exact h.1 _ _ e) wo_sub wo_same
end
end K42
namespace K42
open PySem PySem.Spec PyProof.Rows L2 Fg
local macro_rules | `(tactic| walk_at "sq") => `(tactic| first
  | assumption
  | exact .inl (.inl (by assumption))
  | exact .inl (.inl upd_same))
local macro_rules | `(tactic| walk_at "st") => `(tactic| first
  | assumption
  | exact .inl (.inl (by assumption))
  | exact .inl (.inl upd_same))
local macro_rules | `(tactic| walk_at "o") => `(tactic| first
  | omega
  | assumption
  | (simp only [List.length_append, List.length_take, List.length_drop, List.length_cons, List.length_nil, List.length_singleton, List.length_map, List.length_range, Int.toNat_natCast] ; omega))
local macro_rules | `(tactic| walk_at "s") => `(tactic| first
  | (with_reducible refine i_seq ?_)
  | (with_reducible refine i_asg ?_)
  | ((with_reducible refine' i_var ?h1 ?_); (case h1 => rfl))
  | (with_reducible refine i_c ?_)
  | ((with_reducible refine' i_gname' ?h1 ?_); (case h1 => (simp only [List.set_cons_zero, List.set_cons_succ]; rfl)))
  | (with_reducible refine i_op ?_)
  | (with_reducible refine i_ifS ?_)
  | (with_reducible refine i_for ?_)
  | (with_reducible refine i_test ?_)
  | (with_reducible refine i_B ?_)
  | (with_reducible refine i_exbl ?_)
  | (with_reducible refine i_exint ?_)
  | (with_reducible refine i_cb ?_)
  | (with_reducible refine i_nil ?_)
  | (with_reducible refine i_cons ?_)
  | (with_reducible refine i_ret ?_)
  | (with_reducible refine i_sl ?_)
  | (with_reducible refine i_nopart ?_)
  | (with_reducible refine i_part ?_)
  | (with_reducible refine i_add_int ?_)
  | (with_reducible refine i_sub ?_)
  | (with_reducible refine i_lt ?_)
  | ((with_reducible refine' i_mod ?h1 ?_); (case h1 => walk_at "o"))
  | ((with_reducible refine' i_fdiv ?h1 ?_); (case h1 => (refine cdiv_small ?_ ?_ <;> walk_at "o")))
  | ((with_reducible refine' i_sl_to ?h1 ?h2 ?_); (case h1 => walk_at "o"); (case h2 => walk_at "o"))
  | ((with_reducible refine' i_sl_from ?h1 ?h2 ?_); (case h1 => walk_at "o"); (case h2 => walk_at "o"))
  | ((with_reducible refine' i_add_str ?h1 ?_); (case h1 => walk_at "o"))
  | ((with_reducible refine' i_mul_int ?h1 ?_); (case h1 => first | (refine mul_small ?_ ?_ <;> walk_at "o") | (refine mul_smallR ?_ ?_ <;> walk_at "o")))
  | (with_reducible refine i_le ?_)
  | (with_reducible refine i_gt ?_)
  | (with_reducible refine i_ge ?_)
  | (with_reducible refine i_eq_int ?_)
  | (with_reducible refine i_eq_str ?_)
  | (with_reducible refine i_ne_int ?_)
  | (with_reducible refine i_ne_str ?_)
  | (with_reducible refine i_eq_bl ?_)
  | (with_reducible refine i_ne_bl ?_)
  | (with_reducible refine i_in_sg ?_)
  | (with_reducible refine i_notIn_sg ?_)
  | (with_reducible refine i_call ?_)
  | (with_reducible refine i_callS ?_)
  | (with_reducible refine i_sp1 ?_)
  | (with_reducible refine i_sp2 ?_)
  | (with_reducible refine i_sp3 ?_)
  | (with_reducible refine i_sp4 ?_)
  | (with_reducible refine i_sp1' ?_)
  | (with_reducible refine i_sp2' ?_)
  | (with_reducible refine i_sp3' ?_)
  | ((with_reducible refine' i_ix_lst ?h1 ?h2 ?_); (case h1 => walk_at "sq"); (case h2 => first | exact atI_nat rfl | rfl))
  | ((with_reducible refine' i_ix_tup ?h1 ?h2 ?_); (case h1 => walk_at "st"); (case h2 => first | exact atI_nat rfl | rfl))
  | (with_reducible refine i_gsub ?_)
  | (with_reducible refine i_par ?_)
  | (with_reducible refine i_lstRg1 ?_)
  | (with_reducible refine i_app ?_)
  | (with_reducible refine i_par2 ?_)
  | ((with_reducible refine' i_aug ?h1 ?_); (case h1 => rfl))
  | (with_reducible refine i_ipI ?_)
  | ((with_reducible refine' i_gtup2 ?h1 ?_); (case h1 => walk_at "st"))
  | (with_reducible refine i_int_bl ?_)
  | (with_reducible refine i_raise ?_)
  | (with_reducible refine i_mkE ?_)
  | (with_reducible refine i_ex1 ?_)
  | (with_reducible refine i_and ?_)
  | (with_reducible refine i_or ?_)
  | (with_reducible refine i_not ?_)
  | (with_reducible refine i_tt ?_)
  | (with_reducible refine i_ff ?_)
  | (with_reducible refine i_nott ?_)
  | (with_reducible refine i_notf ?_)
  | (with_reducible refine i_andV ?_)
  | (with_reducible refine i_orV ?_)
  | (with_reducible refine i_notV ?_)
  | (with_reducible refine i_ifE ?_)
  | (with_reducible refine i_tup ?_)
  | (with_reducible refine i_lst ?_)
  | (with_reducible refine i_un ?_)
  | (with_reducible refine i_neg ?_)
  | (with_reducible refine i_chain ?_)
  | (with_reducible refine i_next ?_)
  | (with_reducible refine i_retN ?_)
  | (with_reducible refine i_drop ?_)
  | (with_reducible refine i_int_int ?_)
  | (with_reducible refine i_abs ?_)
  | (with_reducible refine i_m1c ?_)
  | (with_reducible refine i_is_non ?_)
  | (with_reducible refine i_is_int ?_)
  | (with_reducible refine i_is_bl ?_)
  | (with_reducible refine i_isn_bl ?_)
  | (with_reducible refine i_is_str ?_)
  | (with_reducible refine i_is_ref ?_)
  | (with_reducible refine i_isn_non ?_)
  | (with_reducible refine i_isn_int ?_)
  | (with_reducible refine i_isn_str ?_)
  | (with_reducible refine i_isn_ref ?_)
  | (with_reducible refine i_len_str ?h1 ?_; (case h1 => walk_at "o"))
  | (with_reducible refine i_callD ?_)
  | (with_reducible refine i_spD2 ?_)
  | (with_reducible refine i_spM1 ?_)
  | (with_reducible refine i_spM2 ?_)
  | (with_reducible refine i_spM3 ?_)
  | (with_reducible refine i_spM4 ?_)
  | (with_reducible refine i_spM3d ?_)
  | (with_reducible refine i_tfld ?_)
  | (with_reducible refine i_sfld ?_)
  | (with_reducible refine i_meth ?_)
  | (with_reducible refine i_make ?_)
  | (with_reducible refine i_spl ?_)
  | (with_reducible refine i_mkE2 ?_)
  | (with_reducible refine i_ex2 ?_)
  | (with_reducible refine i_dget ?_)
  | (with_reducible refine i_tru ?_)
  | (with_reducible refine i_dput ?_)
  | (with_reducible refine i_dnotin ?_)
  | (with_reducible refine i_din ?_)
  | (with_reducible refine i_isi_int_int ?_) | (with_reducible refine i_isi_int_bool ?_) | (with_reducible refine i_isi_int_str ?_) | (with_reducible refine i_isi_int_tuple ?_) | (with_reducible refine i_isi_int_list ?_)
  | (with_reducible refine i_isi_bl_int ?_) | (with_reducible refine i_isi_bl_bool ?_) | (with_reducible refine i_isi_bl_str ?_) | (with_reducible refine i_isi_bl_tuple ?_) | (with_reducible refine i_isi_bl_list ?_)
  | (with_reducible refine i_isi_str_int ?_) | (with_reducible refine i_isi_str_bool ?_) | (with_reducible refine i_isi_str_str ?_) | (with_reducible refine i_isi_str_tuple ?_) | (with_reducible refine i_isi_str_list ?_)
  | (with_reducible refine i_isi_non_int ?_) | (with_reducible refine i_isi_non_bool ?_) | (with_reducible refine i_isi_non_str ?_) | (with_reducible refine i_isi_non_tuple ?_) | (with_reducible refine i_isi_non_list ?_))
local macro_rules | `(tactic| walk_at "go") => `(tactic| (repeat' (walk_at "s")))
local macro_rules | `(tactic| walk_at "n") => `(tactic| simp only [wipe, List.map_cons, List.map_nil, List.set_cons_zero, List.set_cons_succ])
/-- all that is no list stays -/
def Kp (H H' : Hp) : Prop := ∀ b o, H b = some o → (∀ xs, o ≠ .lst xs) → H' b = some o
section
variable {H H' H'' A : Hp} {C p : Addr} {gs hs : List (List PyData)} {v : V} {d : PyData}
theorem kp_of (s : Same H H') : Kp H H' := fun b o e _ => s _ _ e
theorem Kp.trans (s : Kp H H') (t : Kp H' H'') : Kp H H'' := fun b o e n => t _ _ (s _ _ e n) n
theorem Kp.smT (s : Kp H H') : SmT H H' := fun b xs e => s _ _ e (fun _ z => by cases z)
theorem kp_put {a : Addr} {xs : List V} {o : HO} (e : H a = some (.lst xs)) : Kp H (upd H a o) := fun b u h n => by
  rw [upd_ne (fun z => by rw [z, e] at h; cases h; exact n _ rfl)]
  exact h
theorem kp_wo {a : Addr} {xs : List V} (e : H a = some (.lst xs)) : Kp H (wo H a) := fun b u h n => by
  rw [wo_ne (fun z => by rw [z, e] at h; cases h; exact n _ rfl)]
  exact h
theorem Tells.keep (h : Tells C H p gs) (s : Kp H H') {m : Int} (g : GoodL m gs) : Tells C H' p gs := by
  obtain ⟨dx, t, a, b⟩ := h.at_
  exact ⟨dx, t, s _ _ a (fun _ z => by cases z), b.keep s.smT g.noL⟩
theorem keepT (h : At H v (.tuple (T gs))) (s : Kp H H') {m : Int} (g : GoodL m gs) : At H' v (.tuple (T gs)) := h.keep s.smT g.noL
theorem atAll_set : ∀ {vs : List V} {ds : List PyData}, AtAll H vs ds → ∀ (n : Nat), At H v d → AtAll H (vs.set n v) (ds.set n d)
  | [], [], _, _, _ => .nil
  | x :: vs, e :: ds, .cons a b, 0, h => .cons h b
  | x :: vs, e :: ds, .cons a b, n + 1, h => .cons a (atAll_set b n h)
def lstAt (G : Hp) : Option V → List V
  | some (.ref b) => match G b with
    | some (.lst zs) => zs
    | _ => []
  | _ => []
theorem lstAt_eq {G : Hp} {o : Option V} {b : Addr} {zs : List V} (h : o = some (.ref b)) (e : G b = some (.lst zs)) : lstAt G o = zs := by
  subst h
  show (match G b with
    | some (.lst zs) => zs
    | _ => []) = zs
  rw [e]
theorem cutV_all (xs : List V) : cutV xs none none = xs := by
  unfold cutV
  rw [HT.sIx_none, HT.sIx_none, List.drop_zero]
  exact List.take_of_length_le (by simp)
theorem mk_any {CB : Addr} {G : Hp} {y : V} {R : Hp → Prop} {E : XK} (g : GoodL (gs.length : Int) gs) (hy : At G y d) (ed : deepD d = .tuple (T gs)) {p dx : Addr} (np : G p = none) (ndx : G dx = none) (ne : dx ≠ p) (q : ∀ H', Same G H' → Tells C H' p gs → R H') :
    p_init C CB (.ref p) y (upd (upd G dx (.own p)) p (.ins C dx [])) (fun v H2 => v = .non ∧ R H2) E := by
  have sH : Same G (upd (upd G dx (.own p)) p (.ins C dx [])) := (same_upd ndx).trans (same_upd ((upd_ne ne.symm).trans np))
  have e1 := deep_dep d
  rw [ed] at e1
  have e2 := deep_lay d
  rw [ed] at e2
  have e3 := g.bad
  rw [g.deep] at e3
  refine ⟨G, p, dx, d, rfl, sH, np, upd_same, hy, by have := g.dep; omega, by rw [← e2]; exact g.lay, ?_⟩
  rw [ed, e3]
  intro A1 H1 t ds ed s1 s2 b nw n1 hp at1
  cases ed
  obtain ⟨x1, s3⟩ := made_ext (Same.refl G) np ndx ne s1 s2 b nw n1 hp
  exact ⟨rfl, q H1 x1.gg ⟨dx, t, hp, at1.same s2⟩⟩
theorem rEq_good {m n : Int} {p2 : Addr} {Q : VK} {E : XK} (h : Tells C H p gs) (h2 : Tells C H p2 hs) (g : GoodL m gs) (g2 : GoodL n hs) (q : Q (.bl (PyData.eqv (.tuple (T gs)) (.tuple (T hs)))) H) : rEqO C (sp2 (p_eq C)) E (.ref p) (.ref p2) H Q := by
  obtain ⟨dx, t, a, b⟩ := h.at_
  obtain ⟨dx2, t2, a2, b2⟩ := h2.at_
  exact ⟨p, dx, _, rfl, a, .inl ⟨p2, dx2, _, rfl, a2⟩, _, _, rfl, eq_good h h2 g g2 ⟨_, rfl, q⟩⟩
theorem rEq_tup {m : Int} {b : Addr} {ys : List V} {Q : VK} {E : XK} (h : Tells C H p gs) (g : GoodL m gs) (hb : H b = some (.tup ys)) (q : Q (.bl false) H) : rEqO C (sp2 (p_eq C)) E (.ref p) (.ref b) H Q := by
  obtain ⟨dx, t, a, b'⟩ := h.at_
  exact ⟨p, dx, _, rfl, a, .inr ⟨b, ys, rfl, hb⟩, _, _, rfl, ne_good h g hb ⟨_, rfl, q⟩⟩
theorem rEqR_tup {m : Int} {b : Addr} {ys : List V} {Q : VK} {E : XK} (h : Tells C H p gs) (g : GoodL m gs) (hb : H b = some (.tup ys)) (q : Q (.bl false) H) : rEqR C (sp2 (p_eq C)) E (.ref b) (.ref p) H Q := by
  obtain ⟨dx, t, a, b'⟩ := h.at_
  exact ⟨p, dx, _, b, ys, rfl, a, rfl, hb, _, _, rfl, ne_good h g hb ⟨_, rfl, q⟩⟩
theorem GoodL.app (h : GoodL (gs.length : Int) gs) {es : List PyData} (l : LineOK ((gs.length + 1 : Nat) : Int) es) (k : gs.length < 20) : GoodL ((gs ++ [es]).length : Int) (gs ++ [es]) := by
  have e : (gs ++ [es]).length = gs.length + 1 := by rw [List.length_append]; rfl
  refine ⟨fun e' he => ?_, by rw [e]; omega, by rw [e]; omega⟩
  rw [e]
  rcases List.mem_append.mp he with he | he
  · exact (h.each e' he).mono (by omega)
  · rw [List.mem_singleton.mp he]; exact l
theorem GoodL.set (h : GoodL (gs.length : Int) gs) {es : List PyData} (l : LineOK (gs.length : Int) es) (n : Nat) : GoodL ((gs.set n es).length : Int) (gs.set n es) := by
  rw [List.length_set]
  refine ⟨fun e' he => ?_, by rw [List.length_set]; exact h.one, by rw [List.length_set]; exact h.most⟩
  rcases List.mem_or_eq_of_mem_set he with he | rfl
  · exact h.each e' he
  · exact l
theorem T_app (gs hs : List (List PyData)) : T gs ++ T hs = T (gs ++ hs) := (List.map_append ..).symm
theorem skip_ok (m : Int) : LineOK m [dS cSkip] := ⟨rfl, fun e he => by rw [List.mem_singleton.mp he]; exact .inl ⟨_, rfl, by decide, by decide⟩, by decide⟩
theorem pass_ok (m : Int) {n : Int} (h0 : 1 ≤ n) (h1 : n ≤ 9) : LineOK m [dS cPass, .int n] := by
  refine ⟨?_, fun e he => ?_, by show 2 ≤ 4; decide⟩
  · show isIn (.int n) 1 9 = true
    rw [isIn_int, decide_eq_true h0, decide_eq_true h1]; rfl
  · rcases List.mem_cons.mp he with rfl | he
    · exact .inl ⟨_, rfl, by decide, by decide⟩
    · rw [List.mem_singleton.mp he]; exact .inr ⟨_, rfl, by omega, by omega⟩
end
section
variable {P : Program} {w : World} {K : PySem.W.Frag} {mg : Str → Option Value} {base : Heap} {C_GlimError C_BadOrder C_BadReader C_NoLine C_Orders : Addr}
theorem Dr.ext {d : Dd} {Hk H A1 G1 : Hp} (dr : Dr K d Hk H) (x : Ext Hk H A1 G1) : Dr K d A1 G1 := by
  have n0 : Hk d.a = none := dr.2.1
  have hne : H d.a ≠ none := by
    obtain ⟨_, _, _, _, p, b, u, x', s, ha, _⟩ := dr
    rw [ha]; simp
  exact (dr.same x.gg).know x.aa x.ag (x.free n0 hne)
theorem Dr.lst {d : Dd} {Hk H : Hp} (dr : Dr K d Hk H) : ∃ xs, H d.a = some (.lst xs) := by
  obtain ⟨_, _, _, _, p, b, u, x', s, ha, _⟩ := dr
  exact ⟨_, ha⟩
def p_L_right (K : PySem.W.Frag) : P2 := fun x y H Q _ => ∃ Hk dd g gs, x = .ref g ∧ y = .ref dd.a ∧ Dr K dd Hk H ∧ At Hk (.ref g) (.list (gs.map .list)) ∧ GoodL ((gs.length : Nat) : Int) gs ∧ ∀ H', Q (.bl true) H'
theorem ok_L_right (T : Txt K mg C_GlimError C_BadOrder C_BadReader C_NoLine C_Orders) : GOK P w K mg base CX0 9 "_law_right" ["_law_good", "_law_draw_here"] (sp2  (p_L_right K)) := by
  refine GOK.mk (k := 8) T.d_L_right sc_L_right len2 fun f cdv A outer s H vs Q E hgu hr h => ?_
  obtain ⟨x, y, rfl, h⟩ := h
  refine ⟨_, (pss_cons (ps_set (i := 2) sc_L_right.nd rfl (Or.inl rfl) (pe_callTy (cTup K) (by rfl) T.b_tuple (by decide +kernel) (pa_cons (pe_lc (own := [("_law_line", 11)]) (g := gName 11) (tt := tYes) (by rfl) sc_L_right.nd (piAny K (pv 0)) (blkOk_by (own := [("_law_line", 11)]) (N := ["_law_good", "_law_draw_here", "_law_due_here", "_law_handed", "_law_before", "_law_orders", "_law_place", "_law_other", "_law_twin", "_law_changed", "_law_same", "_law_line"]) (sc := (defScope s_L_right)) (by decide +kernel)) (fun _ _ _ _ _ => (pg_name (i := 11) sc_L_right.nd rfl (Or.inl rfl))) (fun _ _ _ _ _ => pts_nil) (fun _ _ _ _ _ => (pe_callTy (cTup K) (by rfl) T.b_tuple (by decide +kernel) (pa_cons (pv 11) pa_nil)))) pa_nil))) (pss_cons (ps_setLc (i := 3) (own := [("_law_line", 11)]) (g := gName 11) (tt := tYes) (by rfl) sc_L_right.nd rfl rfl (sw_true rfl rfl rfl (by decide +kernel)) (piAny K (pv 0)) (blkOk_by (own := [("_law_line", 11)]) (N := ["_law_good", "_law_draw_here", "_law_due_here", "_law_handed", "_law_before", "_law_orders", "_law_place", "_law_other", "_law_twin", "_law_changed", "_law_same", "_law_line"]) (sc := (defScope s_L_right)) (by decide +kernel)) (fun _ _ _ _ _ => (pg_name (i := 11) sc_L_right.nd rfl (Or.inl rfl))) (fun _ _ _ _ _ => pts_nil) (fun _ _ _ _ _ => (pe_slice (slK K) (pv 11) po_none po_none))) (pss_cons (ps_set (i := 4) sc_L_right.nd rfl (Or.inl rfl) (pe_callB (Fg.cReprA K hgu hr.units) (by rfl) T.b_repr (by decide +kernel) (pa_cons (pv 3) pa_nil))) (pss_cons (ps_set (i := 5) sc_L_right.nd rfl (Or.inl rfl) (pe_mk (ok_Orders___init__ (K := K) T) (hr.mono (by decide)) Fg.passN (pa_cons (pv 3) pa_nil))) (pss_cons (ps_if (pw_or (pt_cmpR (opNe K hr.units) (pe_callB (Fg.cReprA K hgu hr.units) (by rfl) T.b_repr (by decide +kernel) (pa_cons (pv 3) pa_nil)) (pv 4) (nomark _)) (pw_or1 (pt_not (pt_val (pe_g (ok_L_tells (K := K) T) hgu (hr.mono (by decide)) pass0 (pa_cons (pv 5) (pa_cons (pv 2) pa_nil))))))).pt (pss_one (ps_ret pe_bl)) pss_nil) (pss_cons (ps_expr (peApp K (pe_ix (ixK K) (pv 3) pe_int (fun _ _ => rfl)) (pa_cons (pe_S [115, 107, 105, 112]) pa_nil))) (pss_cons (ps_expr (peApp K (pv 3) (pa_cons (pe_lst (pa_cons (pe_S [115, 107, 105, 112]) pa_nil)) pa_nil))) (pss_cons (ps_set (i := 6) sc_L_right.nd rfl (Or.inl rfl) (pe_f (ok_L_pick (K := K) T) (hr.mono (by decide)) pass0 (pa_cons (pv 1) (pa_cons (pe_callB (cLen K) (by rfl) T.b_len (by decide +kernel) (pa_cons (pv 0) pa_nil)) pa_nil)))) (pss_cons (ps_setLc (i := 7) (own := [("_law_line", 11)]) (g := gName 11) (tt := tYes) (by rfl) sc_L_right.nd rfl rfl (sw_true rfl rfl rfl (by decide +kernel)) (piAny K (pv 2)) (blkOk_by (own := [("_law_line", 11)]) (N := ["_law_good", "_law_draw_here", "_law_due_here", "_law_handed", "_law_before", "_law_orders", "_law_place", "_law_other", "_law_twin", "_law_changed", "_law_same", "_law_line"]) (sc := (defScope s_L_right)) (by decide +kernel)) (fun _ _ _ _ _ => (pg_name (i := 11) sc_L_right.nd rfl (Or.inl rfl))) (fun _ _ _ _ _ => pts_nil) (fun _ _ _ _ _ => (pv 11))) (pss_cons (ps_asg (pe_tup (pa_cons (pe_S [112, 97, 115, 115]) (pa_cons (pe_op (opAdd K) pe_int (pe_f (ok_L_pick (K := K) T) (hr.mono (by decide)) pass0 (pa_cons (pv 1) (pa_cons pe_int pa_nil)))) pa_nil))) (pg_sub (pv 7) (pv 6) set_list)) (pss_cons (ps_set (i := 8) sc_L_right.nd rfl (Or.inl rfl) (pe_mk (ok_Orders___init__ (K := K) T) (hr.mono (by decide)) Fg.passN (pa_cons (pv 2) pa_nil))) (pss_cons (ps_set (i := 9) sc_L_right.nd rfl (Or.inl rfl) (pe_mk (ok_Orders___init__ (K := K) T) (hr.mono (by decide)) Fg.passN (pa_cons (pe_callTy (cTup K) (by rfl) T.b_tuple (by decide +kernel) (pa_cons (pv 7) pa_nil)) pa_nil))) (pss_cons (ps_set (i := 10) sc_L_right.nd rfl (Or.inl rfl) (pe_cmpR (opEq K hr.units) (pe_callTy (cTup K) (by rfl) T.b_tuple (by decide +kernel) (pa_cons (pv 7) pa_nil)) (pv 2) (nomark _))) (pss_cons (ps_if (pw_or (pt_not (pt_cmpR (Fg.op_eqO (ok_Orders___eq__ (K := K) T) T.nt_Orders (hr.mono (by decide)) pass0) (pv 5) (pv 8) (nomark _))) (pw_or (pt_not (pt_cmpR (Fg.op_eqO (ok_Orders___eq__ (K := K) T) T.nt_Orders (hr.mono (by decide)) pass0) (pv 8) (pv 5) (nomark _))) (pw_or (pt_cmpR (opNe K hr.units) (pe_cmpR (Fg.op_eqO (ok_Orders___eq__ (K := K) T) T.nt_Orders (hr.mono (by decide)) pass0) (pv 5) (pv 9) (nomark _)) (pv 10) (nomark _)) (pw_or (pt_cmpR (Fg.op_eqO (ok_Orders___eq__ (K := K) T) T.nt_Orders (hr.mono (by decide)) pass0) (pv 5) (pv 2) (nomark _)) (pw_or1 (pt_cmpR (Fg.op_eqR (ok_Orders___eq__ (K := K) T) T.st_Orders (hr.mono (by decide)) pass0) (pv 2) (pv 5) (nomark _))))))).pt (pss_one (ps_ret pe_bl)) pss_nil) (Evl.pss_cut (ps_if (pw_and (pt_cmpR op_ltP (pe_callB (cLen K) (by rfl) T.b_len (by decide +kernel) (pa_cons (pv 2) pa_nil)) pe_int (nomark _)) (pw_and1 (pw_or (pt_cmpR (Fg.op_eqO (ok_Orders___eq__ (K := K) T) T.nt_Orders (hr.mono (by decide)) pass0) (pe_mk (ok_Orders___init__ (K := K) T) (hr.mono (by decide)) Fg.passN (pa_cons (pe_op (opAdd K) (pv 2) (pe_tup (pa_cons (pe_tup (pa_cons (pe_S [115, 107, 105, 112]) pa_nil)) pa_nil))) pa_nil)) (pv 5) (nomark _)) (pw_or1 (pt_cmpR (Fg.op_eqO (ok_Orders___eq__ (K := K) T) T.nt_Orders (hr.mono (by decide)) pass0) (pv 5) (pe_mk (ok_Orders___init__ (K := K) T) (hr.mono (by decide)) Fg.passN (pa_cons (pe_op (opAdd K) (pv 2) (pe_tup (pa_cons (pe_ix (ixK K) (pv 2) pe_int (fun _ _ => rfl)) pa_nil))) pa_nil)) (nomark _)))).pt)).pt (pss_one (ps_ret pe_bl)) pss_nil) (Evl.pss_cut (ps_if (pw_and (pt_cmpR op_gtP (pe_callB (cLen K) (by rfl) T.b_len (by decide +kernel) (pa_cons (pv 2) pa_nil)) pe_int (nomark _)) (pw_and (pt_cmpR op_isP (pe_f (ok_L_due (K := K) T) (hr.mono (by decide)) pass0 (pa_cons (pe_slice (slK K) (pv 2) po_none (po_some (pe_un un_neg pe_int))) pa_nil)) pe_non (nomark _)) (pw_and1 (pt_cmpR (Fg.op_eqO (ok_Orders___eq__ (K := K) T) T.nt_Orders (hr.mono (by decide)) pass0) (pe_mk (ok_Orders___init__ (K := K) T) (hr.mono (by decide)) Fg.passN (pa_cons (pe_slice (slK K) (pv 2) po_none (po_some (pe_un un_neg pe_int))) pa_nil)) (pv 5) (nomark _))))).pt (pss_one (ps_ret pe_bl)) pss_nil) (pss_one (ps_ret (pe_and (pe_g (ok_L_tells (K := K) T) hgu (hr.mono (by decide)) pass0 (pa_cons (pv 9) (pa_cons (pe_callTy (cTup K) (by rfl) T.b_tuple (by decide +kernel) (pa_cons (pv 7) pa_nil)) pa_nil))) (pe_and (pe_g (ok_L_tells (K := K) T) hgu (hr.mono (by decide)) pass0 (pa_cons (pv 5) (pa_cons (pv 2) pa_nil))) (pe_one (pe_g (ok_L_tells (K := K) T) hgu (hr.mono (by decide)) pass0 (pa_cons (pv 8) (pa_cons (pv 2) pa_nil)))))))))))))))))))))))), ?_⟩
  show (_ : TS) { nx := fun _ H' => Q .non H', rt := Q } [some x, some y, none, none, none, none, none, none, none, none, none, none] H
  obtain ⟨Hk, dd, g, gs, rfl, rfl, dr, hg, good, q⟩ := h
  obtain ⟨g', xs, eg, hG, hl, al⟩ := hg.listed
  cases eg
  have hG0 := dr.1 _ _ hG
  have al0 := al.same dr.1
  have ll := al.len
  rw [List.length_map] at ll
  have g1 := good.one
  have g20 := good.most
  have eT : (gs.map PyData.list).map deepD = gs.map PyData.tuple := by
    rw [List.map_map]
    exact List.map_congr_left fun es he => (good.each es he).deep
  walk_at "go"
  refine c_lstD (Same.refl H) (fun R k => by walk_at "go"; exact k) (.inl (.inl hG0)) al0 hl deepD (fun _ => rfl) (fun v e A3 G3 he av x3 QV k => ?_) (fun Dl A3 G3 l x3 gl al3 atl len => ?_)
  · obtain ⟨es, he2, rfl⟩ := List.mem_map.mp he
    walk_at "go"
    refine i_tupleAt x3.ag av rfl ?_
    have := (good.each es he2).deep
    rw [show deepD (.list es) = deepD (.tuple es) from rfl, this] at k
    exact k
  have atl := atl.same x3.ag
  rw [eT] at atl
  walk_at "go"
  refine i_tuple_lst (.inl (.inl gl)) fun u nu => ?_
  have hu1 := At.mkTup (upd_same (H := G3) (a := u) (o := .tup l)) (atl.same (same_upd nu)) (by rw [List.length_map]; omega)
  have s1 := x3.gg.trans (same_upd (o := .tup l) nu)
  clear atl gl al3
  generalize upd G3 u (.tup l) = G1 at *
  clear x3 nu
  have al1 := al0.same s1
  have hG1 := s1 _ _ hG0
  have src : ∀ (i : Nat) (x : V), xs[i]? = some x → ∃ b zs es, x = .ref b ∧ G1 b = some (.lst zs) ∧ lstAt G1 xs[i]? = zs ∧ gs[i]? = some es ∧ AtAll G1 zs es ∧ LineOK (gs.length : Int) es := fun i x hx => by
    obtain ⟨d, hd, ad⟩ := al1.get hx
    rw [List.getElem?_map] at hd
    obtain ⟨es, he, rfl⟩ := Option.map_eq_some_iff.mp hd
    obtain ⟨b, zs, rfl, hb, _, az⟩ := ad.listed
    exact ⟨b, zs, es, rfl, hb, lstAt_eq hx hb, he, az, good.each es (List.mem_of_getElem? he)⟩
  walk_at "go"
  refine c_copy (fun i => lstAt G1 xs[i]?) (fun R k => by walk_at "go"; exact k) (.inl (.inl hG1)) hl (fun i x hx => ?_) (fun _ => rfl) (fun i b G4 hx hb QV k => ?_) (fun hd G2 lc nD s2 hD lcl hk => ?_)
  · obtain ⟨b, zs, es, rfl, hb, e1, _⟩ := src i x hx
    exact ⟨b, rfl, by rw [e1]; exact hb⟩
  · walk_at "go"
    refine i_slL (.inl (.inl hb)) fun p np => ?_
    rw [cutV_all]
    exact k p np
  have ah : At G2 (.ref hd) (.list (gs.map .list)) := by
    refine At.mkLst hD (atAll_of (by rw [lcl, List.length_map, ll]) fun i v d hv hd' => ?_) (by rw [List.length_map]; omega)
    have hi : i < xs.length := by rw [← lcl]; exact (List.getElem?_eq_some_iff.mp hv).1
    obtain ⟨c, e1, _, _, e4⟩ := hk i hi
    rw [hv] at e1
    cases e1
    obtain ⟨b, zs, es, _, _, e5, e6, az, lo⟩ := src i _ (List.getElem?_eq_getElem hi)
    rw [List.getElem?_map, e6] at hd'
    cases hd'
    have e4 : G2 c = some (.lst (lstAt G1 xs[i]?)) := e4
    rw [e5] at e4
    exact At.mkLst e4 (az.same s2) (by have := lo.len; omega)
  have edh : deepD (.list (gs.map .list)) = .tuple (gs.map .tuple) := by
    show PyData.tuple (deepD.deepDs (gs.map .list)) = _
    rw [deepDs_map, eT]
  have rpH : Rp 20000 (.list (gs.map .list)) := by
    refine (Rp.list (m := 500) fun d hd => ?_).mono (by rw [List.length_map]; omega)
    obtain ⟨es, he, rfl⟩ := List.mem_map.mp hd
    exact (good.each es he).rpL
  have layH : (PyData.list (gs.map .list)).canLay0 = true := by
    rw [← deep_lay, edh]
    exact good.lay
  have depH : (PyData.list (gs.map .list)).depth ≤ 60 := by
    rw [← deep_dep, edh]
    have : (PyData.tuple (gs.map .tuple)).depth ≤ 3 := good.dep
    omega
  have ndH := PyData.hasDict_of_canLay _ layH
  walk_at "go"
  refine i_reprA ah rpH (by decide) ndH depH ?_
  walk_at "go"
  intro p dx np ndx ne
  walk_at "go"
  refine mk_any good ah edh np ndx ne fun G5 s5 t5 => ?_
  clear np ndx ne
  walk_at "go"
  refine i_reprA (ah.same s5) rpH (by decide) ndH depH ?_
  walk_at "go"
  refine i_ne_same ?_
  walk_at "go"
  refine tells_good t5 good ((hu1.same s2).same s5) fun G6 s6 => ?_
  have x0 : 0 < xs.length := by omega
  obtain ⟨c0, hc0, nc0, nc0D, gc0⟩ := hk 0 x0
  have s26 := s5.trans s6
  have hD6 := s26 _ _ hD
  have gc6 := s26 _ _ gc0
  have s16 := s2.trans s26
  have t6 := t5.same s6
  have l0 : (lstAt G1 xs[0]?).length ≤ 4 := by
    obtain ⟨b, zs, es, _, _, e5, _, az, lo⟩ := src 0 _ (List.getElem?_eq_getElem x0)
    rw [e5, az.len]; exact lo.len
  walk_at "go"
  refine i_ix_lst (.inl (.inl hD6)) (atI_int (by decide) hc0) ?_
  walk_at "go"
  refine i_appAt gc6 ?_
  walk_at "go"
  refine i_appEnd gc6 (by omega) ?_
  have kp7 := kp_put (o := .lst (lstAt G1 xs[0]? ++ [S cSkip])) gc6
  have s17 : Same G1 (upd G6 c0 (.lst (lstAt G1 xs[0]? ++ [S cSkip]))) := Same.upd s16 nc0
  have hD7 : (upd G6 c0 (.lst (lstAt G1 xs[0]? ++ [S cSkip]))) hd = some (.lst lc) := (upd_ne nc0D.symm).trans hD6
  change (_ : Hp → Prop) (upd G6 c0 (.lst (lstAt G1 xs[0]? ++ [S cSkip])))
  generalize upd G6 c0 (.lst (lstAt G1 xs[0]? ++ [S cSkip])) = G7 at *
  walk_at "go"
  refine i_appAt hD7 ?_
  walk_at "go"
  refine i_new (by show 1 ≤ 100000; omega) fun l8 n8 => ?_
  have hD8 : (upd G7 l8 (.lst [S cSkip])) hd = some (.lst lc) := (same_upd n8) _ _ hD7
  walk_at "go"
  refine i_appEnd hD8 (by omega) ?_
  have kp8 : Kp G6 (upd (upd G7 l8 (.lst [S cSkip])) hd (.lst (lc ++ [.ref l8]))) := kp7.trans ((kp_of (same_upd n8)).trans (kp_put hD8))
  have s18 : Same G1 (upd (upd G7 l8 (.lst [S cSkip])) hd (.lst (lc ++ [.ref l8]))) := Same.upd (s17.trans (same_upd n8)) nD
  change (_ : Hp → Prop) (upd (upd G7 l8 (.lst [S cSkip])) hd (.lst (lc ++ [.ref l8])))
  generalize upd (upd G7 l8 (.lst [S cSkip])) hd (.lst (lc ++ [.ref l8])) = G8 at *
  have t8 := t6.keep kp8 good
  have hu8 := hu1.same s18
  have hG8 := s18 _ _ hG1
  have d8 := (dr.same (s1.trans s18)).max
  obtain ⟨dl, edl⟩ := (dr.same (s1.trans s18)).lst
  have kw := kp_wo edl
  have t8 := t8.keep kw good
  have hu8 := keepT hu8 kw good
  clear kp8 kp7 hD8 n8 hD7 s17 t6 s16 gc6 hD6 s26 gc0 nc0D hc0 ndH depH layH rpH edh ah hk lcl hD nD s2 src al1 s6 s5 t5 l0 kw edl
  generalize wo G8 dd.a = A8 at *
  walk_at "go"
  refine i_len_lst (.inl (.inl hG8)) ?_
  walk_at "go"
  refine ⟨A8, dd, _, rfl, rfl, d8, by omega, fun n G9 d9 bn => ?_⟩
  have n0 := bn.1
  have nl : n < (gs.length : Int) := by
    by_cases z : 2 ≤ (xs.length : Int)
    · have := bn.2.1 z; omega
    · have := bn.2.2 (by omega); omega
  obtain ⟨n, rfl⟩ := Int.eq_ofNat_of_zero_le n0
  obtain ⟨u', us, eu, hU, hul, ua⟩ := hu8.tupled
  cases eu
  have ull := ua.len
  walk_at "go"
  refine c_tupD d9.1 (fun R k => by walk_at "go"; exact k) (.inl (.inl (d9.1 _ _ hU))) ua (by omega) id (fun _ => rfl) (fun v e A3 G3 he av x3 QV k => ?_) (fun ot A10 G10 lo x10 _ ho ao lol => ?_)
  · walk_at "go"
    exact k _ _ v (Ext.refl x3.ag) av
  rw [List.map_id] at ao
  have d10 := d9.ext x10
  have t10 := t8.same x10.aa
  have hu10 := hu8.same x10.aa
  walk_at "go"
  refine ⟨A10, dd, 9, rfl, rfl, d10, by decide, fun k G11 d11 bk => ?_⟩
  have k0 := bk.1
  have k9 := bk.2.1 (by decide)
  have t11 := t10.same d11.1
  have hu11 := hu10.same d11.1
  have ho11 := d11.1 _ _ ho
  have ao11 := ao.same d11.1
  walk_at "go"
  refine i_new (by show 2 ≤ 100000; omega) fun pt npt => ?_
  have ho12 := (same_upd (o := .tup [S cPass, .int (1 + k)]) npt) _ _ ho11
  have s12 := same_upd (o := .tup [S cPass, .int (1 + k)]) npt
  have lln : n < lo.length := by rw [lol, List.length_map]; omega
  walk_at "go"
  refine i_setL n ho12 (Evl.ixN_nat lln) rfl ?_
  have kp13 : Kp G11 (upd (upd G11 pt (.tup [S cPass, .int (1 + k)])) ot (.lst (lo.set n (.ref pt)))) := (kp_of s12).trans (kp_put ho12)
  have good' := good.set (pass_ok (gs.length : Int) (n := 1 + k) (by omega) (by omega)) n
  have ap : At (upd G11 pt (.tup [S cPass, .int (1 + k)])) (.ref pt) (.tuple [dS cPass, .int (1 + k)]) := At.mkTup upd_same (.cons (.str _ (by decide)) (.one (.int _))) (by show 2 ≤ 10000; decide)
  have ao12 := atAll_set (ao11.same s12) n ap
  rw [show (gs.map PyData.tuple).set n (.tuple [dS cPass, .int (1 + k)]) = (gs.set n [dS cPass, .int (1 + k)]).map PyData.tuple from (List.map_set ..).symm] at ao12
  have ao13 := ao12.keep (kp_put (o := .lst (lo.set n (.ref pt))) ho12).smT good'.noLs
  have ho13 : (upd (upd G11 pt (.tup [S cPass, .int (1 + k)])) ot (.lst (lo.set n (.ref pt)))) ot = some (.lst (lo.set n (.ref pt))) := upd_same
  have t13 := t11.keep kp13 good
  have hu13 := keepT hu11 kp13 good
  have lol' : (lo.set n (V.ref pt)).length = gs.length := by rw [List.length_set, lol, List.length_map]
  generalize upd (upd G11 pt (.tup [S cPass, .int (1 + k)])) ot (.lst (lo.set n (.ref pt))) = G13 at *
  generalize lo.set n (V.ref pt) = lo' at *
  generalize egs : gs.set n [dS cPass, .int (1 + k)] = hs at *
  have lhs : hs.length = gs.length := by rw [← egs, List.length_set]
  clear kp13 ao12 ap s12 ho12 ao11 ho11 t11 hu11 t10 hu10 d10 d11 d9 x10 ao ho hul ua hU ull hu8 t8 d8 npt lol lln
  walk_at "go"
  intro p2 dx np ndx ne
  walk_at "go"
  refine mk_any good hu13 good.deep np ndx ne fun G14 s14 t14 => ?_
  clear np ndx ne
  have ho14 := s14 _ _ ho13
  have t13 := t13.same s14
  have hu14 := hu13.same s14
  have ao14 := ao13.same s14
  clear hu13 ao13 ho13 s14
  walk_at "go"
  refine i_tuple_lst (.inl (.inl ho14)) fun u2 nu2 => ?_
  have s15 := same_upd (o := .tup lo') nu2
  have hv15 := At.mkTup (upd_same (H := G14) (a := u2) (o := .tup lo')) (ao14.same s15) (by rw [List.length_map]; omega)
  have ho15 := s15 _ _ ho14
  have t13 := t13.same s15
  have t14 := t14.same s15
  have hu15 := hu14.same s15
  have ao15 := ao14.same s15
  clear hu14 ao14 ho14 nu2
  generalize upd G14 u2 (.tup lo') = G15 at *
  walk_at "go"
  intro p3 dx np ndx ne
  walk_at "go"
  refine mk_any good' hv15 good'.deep np ndx ne fun G16 s16 t16 => ?_
  clear np ndx ne
  have ho16 := s16 _ _ ho15
  have t13 := t13.same s16
  have t14 := t14.same s16
  have hu16 := hu15.same s16
  have ao16 := ao15.same s16
  clear hu15 ao15 ho15 s15 hv15 s16
  walk_at "go"
  refine i_tuple_lst (.inl (.inl ho16)) fun u3 nu3 => ?_
  have s17 := same_upd (o := .tup lo') nu3
  have hv17 := At.mkTup (upd_same (H := G16) (a := u3) (o := .tup lo')) (ao16.same s17) (by rw [List.length_map]; omega)
  have ho17 := s17 _ _ ho16
  have t13 := t13.same s17
  have t14 := t14.same s17
  have t16 := t16.same s17
  have hu17 := hu16.same s17
  have ao17 := ao16.same s17
  clear hu16 ao16 ho16 nu3 s17
  generalize upd G16 u3 (.tup lo') = G17 at *
  walk_at "go"
  have sh : SeqAt.shaped (.tuple (gs.map PyData.tuple)) = true := by
    unfold SeqAt.shaped
    have := good.dep
    rw [show (PyData.tuple (gs.map PyData.tuple)).canLay0 = true from good.lay, decide_eq_true (show (PyData.tuple (gs.map PyData.tuple)).depth ≤ 64 from Nat.le_trans good.dep (by decide))]; rfl
  have sh' : SeqAt.shaped (.tuple (hs.map PyData.tuple)) = true := by
    unfold SeqAt.shaped
    rw [show (PyData.tuple (hs.map PyData.tuple)).canLay0 = true from good'.lay, decide_eq_true (show (PyData.tuple (hs.map PyData.tuple)).depth ≤ 64 from Nat.le_trans good'.dep (by decide))]; rfl
  refine i_eq_data (hv17.dp K _ _ (PyData.hasDict_of_canLay _ good'.lay)) (hu17.dp K _ _ (PyData.hasDict_of_canLay _ good.lay)) sh' sh rfl ?_
  generalize eqb : PyData.eqv (.tuple (hs.map PyData.tuple)) (.tuple (gs.map PyData.tuple)) = eb at *
  obtain ⟨u', us, eu, hU, hul, ua⟩ := hu17.tupled
  cases eu
  have ull := ua.len
  rw [List.length_map] at ull
  walk_at "go"
  refine rEq_good t13 t14 good good ?_
  rw [PySem.SeqAt.eqv_refl _ good.lay]
  walk_at "go"
  refine rEq_good t14 t13 good good ?_
  rw [PySem.SeqAt.eqv_refl _ good.lay]
  walk_at "go"
  refine rEq_good t13 t16 good good' ?_
  rw [show PyData.eqv (.tuple (gs.map PyData.tuple)) (.tuple (hs.map PyData.tuple)) = eb from (PySem.W.eqv_comm _ _).trans eqb]
  walk_at "go"
  rw [decide_eq_true (rfl : eb = eb)]
  walk_at "go"
  refine rEq_tup t13 good hU ?_
  walk_at "go"
  refine rEqR_tup t13 good hU ?_
  walk_at "go"
  refine i_cut (fun σ G => σ = [some (.ref g), some (.ref dd.a), some (.ref u), some (.ref hd), some (.str (PyData.list (gs.map .list)).shown), some (.ref p), some (.int (n : Int)), some (.ref ot), some (.ref p2), some (.ref p3), some (.bl eb), none] ∧ Same G17 G) ?_ ?_
  · walk_at "go"
    refine i_len_tup (.inl (.inl hU)) ?_
    walk_at "go"
    refine i_dec (fun e20 => ?_) (fun _ => ⟨rfl, Same.refl _⟩)
    have gl20 : gs.length < 20 := by omega
    have gA := good.app (skip_ok _) gl20
    walk_at "go"
    refine i_new (by show 1 ≤ 100000; omega) fun q1 nq1 => ?_
    walk_at "go"
    refine i_new (by show 1 ≤ 100000; omega) fun q2 nq2 => ?_
    have s18 : Same G17 (upd (upd G17 q1 (.tup [S cSkip])) q2 (.tup [.ref q1])) := (same_upd nq1).trans (same_upd nq2)
    have hq1 : (upd (upd G17 q1 (.tup [S cSkip])) q2 (.tup [.ref q1])) q1 = some (.tup [S cSkip]) := (same_upd nq2) _ _ upd_same
    have hq2 : (upd (upd G17 q1 (.tup [S cSkip])) q2 (.tup [.ref q1])) q2 = some (.tup [.ref q1]) := upd_same
    generalize upd (upd G17 q1 (.tup [S cSkip])) q2 (.tup [.ref q1]) = G18 at *
    refine i_catT (s18 _ _ hU) hq2 (by show us.length + 1 ≤ 1000; omega) fun r G19 s19 hr _ => ?_
    have ar : At G19 (.ref r) (.tuple ((gs ++ [[dS cSkip]]).map PyData.tuple)) := by
      rw [List.map_append]
      exact At.mkTup hr ((ua.same (s18.trans s19)).app (.one (At.mkTup (s19 _ _ hq1) (.one (.str _ (by decide))) (by decide)))) (by rw [List.length_append, List.length_map]; show gs.length + 1 ≤ 10000; omega)
    walk_at "go"
    intro p4 dx np ndx ne
    walk_at "go"
    refine mk_any gA ar gA.deep np ndx ne fun G20 s20 t20 => ?_
    clear np ndx ne ar hr
    have s720 := (s18.trans s19).trans s20
    walk_at "go"
    refine rEq_good t20 (t13.same s720) gA good ?_
    rw [eqv_len (by rw [List.length_map, List.length_map, List.length_append]; show gs.length + 1 ≠ _; omega)]
    walk_at "go"
    obtain ⟨es0, he0⟩ : ∃ es0, gs[0]? = some es0 := ⟨_, List.getElem?_eq_getElem (by omega)⟩
    obtain ⟨v0, hv0, av0⟩ := ua.at (i := 0) (d := .tuple es0) (by rw [List.getElem?_map, he0]; rfl)
    have gB := good.app ((good.each es0 (List.mem_of_getElem? he0)).mono (n := ((gs.length + 1 : Nat) : Int)) (by omega)) gl20
    refine i_ix_tup (.inl (.inl (s720 _ _ hU))) (atI_int (by decide) hv0) ?_
    walk_at "go"
    refine i_new (by show 1 ≤ 100000; omega) fun q3 nq3 => ?_
    have s21 := s720.trans (same_upd (o := .tup [v0]) nq3)
    have hq3 : (upd G20 q3 (.tup [v0])) q3 = some (.tup [v0]) := upd_same
    generalize upd G20 q3 (.tup [v0]) = G21 at *
    refine i_catT (s21 _ _ hU) hq3 (by show us.length + 1 ≤ 1000; omega) fun r2 G22 s22 hr2 _ => ?_
    have ar : At G22 (.ref r2) (.tuple ((gs ++ [es0]).map PyData.tuple)) := by
      rw [List.map_append]
      exact At.mkTup hr2 ((ua.same (s21.trans s22)).app (.one (av0.same (s21.trans s22)))) (by rw [List.length_append, List.length_map]; show gs.length + 1 ≤ 10000; omega)
    walk_at "go"
    intro p5 dx np ndx ne
    walk_at "go"
    refine mk_any gB ar gB.deep np ndx ne fun G23 s23 t23 => ?_
    have s723 := (s21.trans s22).trans s23
    walk_at "go"
    refine rEq_good (t13.same s723) t23 good gB ?_
    rw [eqv_len (by rw [List.length_map, List.length_map, List.length_append]; show _ ≠ gs.length + 1; omega)]
    walk_at "go"
    exact ⟨rfl, s723⟩
  rintro σ G24 ⟨rfl, s24⟩
  walk_at "go"
  refine i_cut (fun σ G => σ = [some (.ref g), some (.ref dd.a), some (.ref u), some (.ref hd), some (.str (PyData.list (gs.map .list)).shown), some (.ref p), some (.int (n : Int)), some (.ref ot), some (.ref p2), some (.ref p3), some (.bl eb), none] ∧ Same G17 G) ?_ ?_
  · walk_at "go"
    refine i_len_tup (.inl (.inl (s24 _ _ hU))) ?_
    walk_at "go"
    refine i_dec (fun e1 => ?_) (fun _ => ⟨rfl, s24⟩)
    walk_at "go"
    refine i_slTup (s24 _ _ hU) fun r G25 s25 hr _ => ?_
    have hr : G25 r = some (.tup us.dropLast) := by rw [← cutV_init]; exact hr
    have ar : At G25 (.ref r) (.tuple (gs.dropLast.map PyData.tuple)) := by
      refine At.mkTup hr ?_ (by rw [List.length_map, List.length_dropLast]; omega)
      have := (ua.same (s24.trans s25)).take (us.length - 1)
      rw [← List.dropLast_eq_take, ull, ← List.map_take, ← List.dropLast_eq_take] at this
      exact this
    have goodC : GoodL (gs.length : Int) gs.dropLast := ⟨fun e he => good.each e (List.dropLast_subset _ he), by rw [List.length_dropLast]; omega, by rw [List.length_dropLast]; omega⟩
    walk_at "go"
    refine ⟨_, ar, goodC.lay, fun G26 s26 => ?_⟩
    rw [goodC.deep]
    cases ebo : badO (.tuple (gs.dropLast.map PyData.tuple)) with
    | some k2 =>
      unfold optV
      walk_at "go"
      exact ⟨rfl, (s24.trans s25).trans s26⟩
    | none =>
    unfold optV
    walk_at "go"
    have gD : GoodL (gs.dropLast.length : Int) gs.dropLast := by
      obtain ⟨ds, hs1, _, _, _, ok⟩ := bad_no (d := .tuple (gs.dropLast.map PyData.tuple)) (by rw [show deepD (.tuple (gs.dropLast.map PyData.tuple)) = .tuple (gs.dropLast.map PyData.tuple) from goodC.deep]; exact ebo)
      cases hs1
      refine ⟨fun es he => ⟨?_, (goodC.each es he).fl, (goodC.each es he).len⟩, goodC.one, goodC.most⟩
      have := ok (.tuple es) (List.mem_map_of_mem he)
      rw [(goodC.each es he).deep, List.length_map] at this
      exact this
    have s726 := (s24.trans s25).trans s26
    refine i_slTup (s726 _ _ hU) fun r2 G27 s27 hr2 _ => ?_
    have hr2 : G27 r2 = some (.tup us.dropLast) := by rw [← cutV_init]; exact hr2
    have ar2 : At G27 (.ref r2) (.tuple (gs.dropLast.map PyData.tuple)) := by
      refine At.mkTup hr2 ?_ (by rw [List.length_map, List.length_dropLast]; omega)
      have := (ua.same (s726.trans s27)).take (us.length - 1)
      rw [← List.dropLast_eq_take, ull, ← List.map_take, ← List.dropLast_eq_take] at this
      exact this
    walk_at "go"
    intro p6 dx np ndx ne
    walk_at "go"
    refine mk_any gD ar2 gD.deep np ndx ne fun G28 s28 t28 => ?_
    have s728 := (s726.trans s27).trans s28
    walk_at "go"
    refine rEq_good t28 (t13.same s728) gD good ?_
    rw [eqv_len (by rw [List.length_map, List.length_map, List.length_dropLast]; omega)]
    walk_at "go"
    exact ⟨rfl, s728⟩
  rintro σ G30 ⟨rfl, s30⟩
  walk_at "go"
  refine i_tuple_lst (.inl (.inl (s30 _ _ ho17))) fun u4 nu4 => ?_
  have s31 := s30.trans (same_upd (o := .tup lo') nu4)
  have hv31 := At.mkTup (upd_same (H := G30) (a := u4) (o := .tup lo')) (ao17.same s31) (by rw [List.length_map]; omega)
  generalize upd G30 u4 (.tup lo') = G31 at *
  walk_at "go"
  refine tells_good (t16.same s31) good' hv31 fun G32 s32 => ?_
  walk_at "go"
  have s33 := s31.trans s32
  refine tells_good (t13.same s33) good (hu17.same s33) fun G34 s34 => ?_
  walk_at "go"
  have s35 := s33.trans s34
  refine tells_good (t14.same s35) good (hu17.same s35) fun G36 s36 => ?_
  exact q _
end
end K42
namespace K42
open PySem PySem.Spec PyProof.Rows L2 Fg
local macro_rules | `(tactic| walk_at "sq") => `(tactic| first
  | assumption
  | exact .inl (.inl (by assumption))
  | exact .inl (.inl upd_same))
local macro_rules | `(tactic| walk_at "st") => `(tactic| first
  | assumption
  | exact .inl (.inl (by assumption))
  | exact .inl (.inl upd_same))
local macro_rules | `(tactic| walk_at "o") => `(tactic| first
  | omega
  | assumption
  | (simp only [List.length_append, List.length_take, List.length_drop, List.length_cons, List.length_nil, List.length_singleton, List.length_map, List.length_range, Int.toNat_natCast] ; omega))
local macro_rules | `(tactic| walk_at "s") => `(tactic| first
  | (with_reducible refine i_seq ?_)
  | (with_reducible refine i_asg ?_)
  | ((with_reducible refine' i_var ?h1 ?_); (case h1 => rfl))
  | (with_reducible refine i_c ?_)
  | ((with_reducible refine' i_gname' ?h1 ?_); (case h1 => (simp only [List.set_cons_zero, List.set_cons_succ]; rfl)))
  | (with_reducible refine i_op ?_)
  | (with_reducible refine i_ifS ?_)
  | (with_reducible refine i_for ?_)
  | (with_reducible refine i_test ?_)
  | (with_reducible refine i_B ?_)
  | (with_reducible refine i_exbl ?_)
  | (with_reducible refine i_exint ?_)
  | (with_reducible refine i_cb ?_)
  | (with_reducible refine i_nil ?_)
  | (with_reducible refine i_cons ?_)
  | (with_reducible refine i_ret ?_)
  | (with_reducible refine i_sl ?_)
  | (with_reducible refine i_nopart ?_)
  | (with_reducible refine i_part ?_)
  | (with_reducible refine i_add_int ?_)
  | (with_reducible refine i_sub ?_)
  | (with_reducible refine i_lt ?_)
  | ((with_reducible refine' i_mod ?h1 ?_); (case h1 => walk_at "o"))
  | ((with_reducible refine' i_fdiv ?h1 ?_); (case h1 => (refine cdiv_small ?_ ?_ <;> walk_at "o")))
  | ((with_reducible refine' i_sl_to ?h1 ?h2 ?_); (case h1 => walk_at "o"); (case h2 => walk_at "o"))
  | ((with_reducible refine' i_sl_from ?h1 ?h2 ?_); (case h1 => walk_at "o"); (case h2 => walk_at "o"))
  | ((with_reducible refine' i_add_str ?h1 ?_); (case h1 => walk_at "o"))
  | ((with_reducible refine' i_mul_int ?h1 ?_); (case h1 => first | (refine mul_small ?_ ?_ <;> walk_at "o") | (refine mul_smallR ?_ ?_ <;> walk_at "o")))
  | (with_reducible refine i_le ?_)
  | (with_reducible refine i_gt ?_)
  | (with_reducible refine i_ge ?_)
  | (with_reducible refine i_eq_int ?_)
  | (with_reducible refine i_eq_str ?_)
  | (with_reducible refine i_ne_int ?_)
  | (with_reducible refine i_ne_str ?_)
  | (with_reducible refine i_eq_bl ?_)
  | (with_reducible refine i_ne_bl ?_)
  | (with_reducible refine i_in_sg ?_)
  | (with_reducible refine i_notIn_sg ?_)
  | (with_reducible refine i_call ?_)
  | (with_reducible refine i_callS ?_)
  | (with_reducible refine i_sp1 ?_)
  | (with_reducible refine i_sp2 ?_)
  | (with_reducible refine i_sp3 ?_)
  | (with_reducible refine i_sp4 ?_)
  | (with_reducible refine i_sp1' ?_)
  | (with_reducible refine i_sp2' ?_)
  | (with_reducible refine i_sp3' ?_)
  | ((with_reducible refine' i_ix_lst ?h1 ?h2 ?_); (case h1 => walk_at "sq"); (case h2 => first | exact atI_nat rfl | rfl))
  | ((with_reducible refine' i_ix_tup ?h1 ?h2 ?_); (case h1 => walk_at "st"); (case h2 => first | exact atI_nat rfl | rfl))
  | (with_reducible refine i_gsub ?_)
  | (with_reducible refine i_par ?_)
  | (with_reducible refine i_lstRg1 ?_)
  | (with_reducible refine i_app ?_)
  | (with_reducible refine i_par2 ?_)
  | ((with_reducible refine' i_aug ?h1 ?_); (case h1 => rfl))
  | (with_reducible refine i_ipI ?_)
  | ((with_reducible refine' i_gtup2 ?h1 ?_); (case h1 => walk_at "st"))
  | (with_reducible refine i_int_bl ?_)
  | (with_reducible refine i_raise ?_)
  | (with_reducible refine i_mkE ?_)
  | (with_reducible refine i_ex1 ?_)
  | (with_reducible refine i_and ?_)
  | (with_reducible refine i_or ?_)
  | (with_reducible refine i_not ?_)
  | (with_reducible refine i_tt ?_)
  | (with_reducible refine i_ff ?_)
  | (with_reducible refine i_nott ?_)
  | (with_reducible refine i_notf ?_)
  | (with_reducible refine i_andV ?_)
  | (with_reducible refine i_orV ?_)
  | (with_reducible refine i_notV ?_)
  | (with_reducible refine i_ifE ?_)
  | (with_reducible refine i_tup ?_)
  | (with_reducible refine i_lst ?_)
  | (with_reducible refine i_un ?_)
  | (with_reducible refine i_neg ?_)
  | (with_reducible refine i_chain ?_)
  | (with_reducible refine i_next ?_)
  | (with_reducible refine i_retN ?_)
  | (with_reducible refine i_drop ?_)
  | (with_reducible refine i_int_int ?_)
  | (with_reducible refine i_abs ?_)
  | (with_reducible refine i_m1c ?_)
  | (with_reducible refine i_is_non ?_)
  | (with_reducible refine i_is_int ?_)
  | (with_reducible refine i_is_bl ?_)
  | (with_reducible refine i_isn_bl ?_)
  | (with_reducible refine i_is_str ?_)
  | (with_reducible refine i_is_ref ?_)
  | (with_reducible refine i_isn_non ?_)
  | (with_reducible refine i_isn_int ?_)
  | (with_reducible refine i_isn_str ?_)
  | (with_reducible refine i_isn_ref ?_)
  | (with_reducible refine i_len_str ?h1 ?_; (case h1 => walk_at "o"))
  | (with_reducible refine i_callD ?_)
  | (with_reducible refine i_spD2 ?_)
  | (with_reducible refine i_spM1 ?_)
  | (with_reducible refine i_spM2 ?_)
  | (with_reducible refine i_spM3 ?_)
  | (with_reducible refine i_spM4 ?_)
  | (with_reducible refine i_spM3d ?_)
  | (with_reducible refine i_tfld ?_)
  | (with_reducible refine i_sfld ?_)
  | (with_reducible refine i_meth ?_)
  | (with_reducible refine i_make ?_)
  | (with_reducible refine i_spl ?_)
  | (with_reducible refine i_mkE2 ?_)
  | (with_reducible refine i_ex2 ?_)
  | (with_reducible refine i_dget ?_)
  | (with_reducible refine i_tru ?_)
  | (with_reducible refine i_dput ?_)
  | (with_reducible refine i_dnotin ?_)
  | (with_reducible refine i_din ?_)
  | (with_reducible refine i_isi_int_int ?_) | (with_reducible refine i_isi_int_bool ?_) | (with_reducible refine i_isi_int_str ?_) | (with_reducible refine i_isi_int_tuple ?_) | (with_reducible refine i_isi_int_list ?_)
  | (with_reducible refine i_isi_bl_int ?_) | (with_reducible refine i_isi_bl_bool ?_) | (with_reducible refine i_isi_bl_str ?_) | (with_reducible refine i_isi_bl_tuple ?_) | (with_reducible refine i_isi_bl_list ?_)
  | (with_reducible refine i_isi_str_int ?_) | (with_reducible refine i_isi_str_bool ?_) | (with_reducible refine i_isi_str_str ?_) | (with_reducible refine i_isi_str_tuple ?_) | (with_reducible refine i_isi_str_list ?_)
  | (with_reducible refine i_isi_non_int ?_) | (with_reducible refine i_isi_non_bool ?_) | (with_reducible refine i_isi_non_str ?_) | (with_reducible refine i_isi_non_tuple ?_) | (with_reducible refine i_isi_non_list ?_))
local macro_rules | `(tactic| walk_at "go") => `(tactic| (repeat' (walk_at "s")))
local macro_rules | `(tactic| walk_at "n") => `(tactic| simp only [wipe, List.map_cons, List.map_nil, List.set_cons_zero, List.set_cons_succ])
theorem LineD.rp {n : Nat} {d : PyData} (h : LineD n d) (k : n ≤ 10) : Rp 500 d ∧ d.canLay0 = true ∧ d.depth ≤ 2 := by
  rcases h with ⟨ds, rfl, l, p⟩ | ⟨_, p⟩
  · refine ⟨(Rp.list fun e he => (p e he).rp).mono (by omega), ?_, ?_⟩
    · simp only [PyData.canLay0]; exact lays_of fun e he => (p e he).lay
    · have := deps_of (n := 1) fun e he => (p e he).dep
      show PyData.depthAll ds + 1 ≤ 2
      omega
  · exact ⟨p.rp.mono (by omega), p.lay, by have := p.dep; omega⟩
theorem ask_lines {n : Nat} {ds : List PyData} (h : ∀ e ∈ ds, LineD n e) (k : n ≤ 10) (l : ds.length ≤ 21) : AskD (.list ds) ∧ AskD (.tuple ds) := by
  have h' := fun e he => (h e he).rp k
  have lay := lays_of fun e he => (h' e he).2.1
  have dep := deps_of (n := 2) fun e he => (h' e he).2.2
  have each : ∀ e ∈ ds, Rp 500 e := fun e he => (h' e he).1
  refine ⟨⟨by simp only [PyData.canLay0]; exact lay, ?_, (Rp.list each).mono (by omega), fun es he => by cases he; exact each⟩, ⟨by simp only [PyData.canLay0]; exact lay, ?_, (Rp.tuple each).mono (by omega), fun es he => by cases he; exact each⟩⟩
  · show PyData.depthAll ds + 1 ≤ 4; omega
  · show PyData.depthAll ds + 1 ≤ 4; omega
theorem LineOK.line {m : Int} {es : List PyData} (h : LineOK m es) : LineD 4 (.list es) := .inl ⟨es, rfl, h.len, fun e he => (h.fl e he).part⟩
def askB (d : PyData) : Bool := d.canLay0 && (decide (d.depth ≤ 4) && (rpB 20000 d && (match seqD d with
  | some ds => ds.all (rpB 500)
  | none => true)))
theorem ask_of {d : PyData} (h : askB d = true) : AskD d := by
  unfold askB at h
  rw [Bool.and_eq_true, Bool.and_eq_true, Bool.and_eq_true, decide_eq_true_eq] at h
  refine ⟨h.1, h.2.1, rp_of h.2.2.1, fun ds hs e he => ?_⟩
  have h4 := h.2.2.2
  rw [hs] at h4
  exact rp_of (List.all_eq_true.mp h4 e he)
theorem eight {n : Int} (h : Btw n 8) : n = 0 ∨ n = 1 ∨ n = 2 ∨ n = 3 ∨ n = 4 ∨ n = 5 ∨ n = 6 ∨ n = 7 := by
  have := h.1
  have := h.2.1 (by decide)
  omega
/-- what the law asks -/
def p_law (K : PySem.W.Frag) : P1 := fun x H Q _ => ∃ (a : Addr) (ns : List Int), x = .ref a ∧ SqL K H a (ns.map V.int) ∧ ns.length ≤ 63 ∧ ∀ H', Q (.bl true) H'
section
variable {P : Program} {w : World} {K : PySem.W.Frag} {mg : Str → Option Value} {base : Heap} {C_GlimError C_BadOrder C_BadReader C_NoLine C_Orders : Addr}
theorem ok_law_at {f : Addr} {fd : FuncData} (F : Fun K "law" "law" s_law f fd) (T : Txt K mg C_GlimError C_BadOrder C_BadReader C_NoLine C_Orders) : GOk P w K mg base CX0 11 f fd ["_law_script"] (sp1 (p_law K)) := by
  refine FnGOk.mk (k := 10) F sc_law len1 fun cdv A outer s H vs Q E hgu hr h => ?_
  obtain ⟨x, rfl, h⟩ := h
  refine ⟨_, (pss_cons (ps_set (i := 1) sc_law.nd rfl (Or.inr rfl) (pe_f (ok_L_draw (K := K) T) (hr.mono (by decide)) pass0 (pa_cons (pv 0) pa_nil))) (pss_cons (ps_set (i := 2) sc_law.nd rfl (Or.inr rfl) (pe_f (ok_L_names (K := K) T) (hr.mono (by decide)) pass0 (pa_cons (pv 1) (pa_cons pe_int pa_nil)))) (pss_cons (ps_set (i := 3) sc_law.nd rfl (Or.inl rfl) (pe_f (ok_L_pick (K := K) T) (hr.mono (by decide)) pass0 (pa_cons (pv 1) (pa_cons pe_int pa_nil)))) (pss_cons (ps_set (i := 4) sc_law.nd rfl (Or.inr rfl) (pe_ix (ixK K) (pe_lst (pa_cons pe_int (pa_cons pe_int (pa_cons pe_int (pa_cons pe_int (pa_cons pe_int (pa_cons pe_int (pa_cons pe_int (pa_cons pe_int pa_nil))))))))) (pv 3) (fun _ _ => rfl))) (Evl.pss_cut (ps_if (pt_cmpR op_gtP (pv 3) pe_int (nomark _)) (pss_one (ps_set (i := 4) sc_law.nd rfl (Or.inr rfl) (pe_op (opAdd K) pe_int (pe_f (ok_L_pick (K := K) T) (hr.mono (by decide)) pass0 (pa_cons (pv 1) (pa_cons pe_int pa_nil)))))) pss_nil) (pss_cons (ps_setLc (i := 5) (own := [("_law_turn", 6)]) (g := gName 6) (tt := tYes) (by rfl) sc_law.nd rfl rfl (sw_true rfl rfl rfl (by decide +kernel)) (pi_range1 rfl T.b_range (pa_cons (pv 4) pa_nil)) (blkOk_by (own := [("_law_turn", 6)]) (N := ["_law_script", "_law_draw_here", "_law_names_here", "_law_kind", "_law_many", "_law_good", "_law_turn", "_law_bad", "_law_spoil", "_law_place", "_law_handed", "_law_odd_here", "_law_line"]) (sc := (defScope s_law)) (by decide +kernel)) (fun _ _ _ _ _ => (pg_name (i := 6) sc_law.nd rfl (Or.inl rfl))) (fun _ _ _ _ _ => pts_nil) (fun _ _ _ _ _ => (pe_callTy (cListP K) (by rfl) T.b_list (by decide +kernel) (pa_cons (pe_f (ok_L_order (K := K) T) (hr.mono (by decide)) pass0 (pa_cons (pv 1) (pa_cons (pv 4) (pa_cons (pv 2) (pa_cons pe_int pa_nil))))) pa_nil)))) (pss_cons (ps_if (pt_not (pt_val (pe_g (ok_L_asked (K := K) T) hgu (hr.mono (by decide)) pass0 (pa_cons (pv 5) pa_nil)))) (pss_one (ps_ret pe_bl)) pss_nil) (pss_cons (ps_for PassesOwn.never rfl (pi_range1 rfl T.b_range (pa_cons pe_int pa_nil)) (pg_name (i := 6) sc_law.nd rfl (Or.inl rfl)) (pss_cons (ps_setLc (i := 7) (own := [("_law_line", 12)]) (g := gName 12) (tt := tYes) (by rfl) sc_law.nd rfl rfl (sw_true rfl rfl rfl (by decide +kernel)) (piAny K (pv 5)) (blkOk_by (own := [("_law_line", 12)]) (N := ["_law_script", "_law_draw_here", "_law_names_here", "_law_kind", "_law_many", "_law_good", "_law_turn", "_law_bad", "_law_spoil", "_law_place", "_law_handed", "_law_odd_here", "_law_line"]) (sc := (defScope s_law)) (by decide +kernel)) (fun _ _ _ _ _ => (pg_name (i := 12) sc_law.nd rfl (Or.inl rfl))) (fun _ _ _ _ _ => pts_nil) (fun _ _ _ _ _ => (pv 12))) (pss_cons (ps_for PassesOwn.never rfl (pi_range1 rfl T.b_range (pa_cons (pe_op (opAdd K) pe_int (pe_f (ok_L_pick (K := K) T) (hr.mono (by decide)) pass0 (pa_cons (pv 1) (pa_cons pe_int pa_nil)))) pa_nil)) (pg_name (i := 8) sc_law.nd rfl (Or.inl rfl)) (pss_one (ps_if (pt_cmpR op_gtP (pv 4) pe_int (nomark _)) (pss_cons (ps_set (i := 9) sc_law.nd rfl (Or.inl rfl) (pe_f (ok_L_pick (K := K) T) (hr.mono (by decide)) pass0 (pa_cons (pv 1) (pa_cons (pv 4) pa_nil)))) (pss_one (ps_asg (pe_f (ok_L_spoilt (K := K) T) (hr.mono (by decide)) pass0 (pa_cons (pv 1) (pa_cons (pe_ix (ixK K) (pv 7) (pv 9) (fun _ _ => rfl)) (pa_cons (pv 4) pa_nil)))) (pg_sub (pv 7) (pv 9) set_list)))) pss_nil))) (pss_cons (ps_set (i := 10) sc_law.nd rfl (Or.inl rfl) (pv 7)) (Evl.pss_cut (ps_if (pt_cmpR (opEq K hr.units) (pe_f (ok_L_pick (K := K) T) (hr.mono (by decide)) pass0 (pa_cons (pv 1) (pa_cons pe_int pa_nil))) pe_int (nomark _)) (pss_one (ps_set (i := 10) sc_law.nd rfl (Or.inl rfl) (pe_callTy (cTup K) (by rfl) T.b_tuple (by decide +kernel) (pa_cons (pv 7) pa_nil)))) pss_nil) (pss_one (ps_if (pt_not (pt_val (pe_g (ok_L_asked (K := K) T) hgu (hr.mono (by decide)) pass0 (pa_cons (pv 10) pa_nil)))) (pss_one (ps_ret pe_bl)) pss_nil))))))) (pss_cons (ps_set (i := 11) sc_law.nd rfl (Or.inl rfl) (pe_ix (ixK K) (pe_lst (pa_cons pe_non (pa_cons (pe_S [115, 107, 105, 112]) (pa_cons pe_int (pa_cons pe_bl (pa_cons (pe_tup (pa_cons (pe_S [115, 107, 105, 112]) pa_nil)) (pa_cons (pe_lst (pa_cons (pe_S [103, 111]) (pa_cons pe_int pa_nil))) (pa_cons (pe_tup (pa_cons (pe_tup pa_nil) pa_nil)) (pa_cons (pe_S []) pa_nil))))))))) (pe_f (ok_L_pick (K := K) T) (hr.mono (by decide)) pass0 (pa_cons (pv 1) (pa_cons pe_int pa_nil))) (fun _ _ => rfl))) (pss_cons (ps_if (pt_not (pt_val (pe_g (ok_L_asked (K := K) T) hgu (hr.mono (by decide)) pass0 (pa_cons (pv 11) pa_nil)))) (pss_one (ps_ret pe_bl)) pss_nil) (pss_cons (ps_if (pt_chain op_leP op_leP pe_int (pv 4) pe_int) (pss_one (ps_ret (pe_g (ok_L_right (K := K) T) hgu (hr.mono (by decide)) pass0 (pa_cons (pv 5) (pa_cons (pv 1) pa_nil))))) pss_nil) (pss_one (ps_ret pe_bl))))))))))))), ?_⟩
  show (_ : TS) { nx := fun _ H' => Q .non H', rt := Q } [some x, none, none, none, none, none, none, none, none, none, none, none, none] H
  obtain ⟨a, ns, rfl, hS, hl, q⟩ := h
  walk_at "go"
  refine ⟨a, ns, rfl, hS, by omega, fun H0 d H1 s0 dr => ?_⟩
  walk_at "go"
  refine ⟨H0, d, rfl, rfl, dr, fun nl n1 n2 H2 knl dr2 w1 w2 => ?_⟩
  have hnl : (upd H0 nl (.lst [S n1, S n2])) nl = some (.lst [S n1, S n2]) := upd_same
  generalize upd H0 nl (.lst [S n1, S n2]) = N at *
  walk_at "go"
  refine ⟨N, d, 8, rfl, rfl, dr2, by decide, fun kd H3 dr3 bk => ?_⟩
  walk_at "go"
  refine i_new (by show 8 ≤ 100000; omega) fun l8 nl8 => ?_
  have dr4 := dr3.same (same_upd (o := .lst [.int 0, .int 19, .int 20, .int 21, .int 0, .int 0, .int 0, .int 0]) nl8)
  have key : ∃ m0 : Nat, atI [V.int 0, .int 19, .int 20, .int 21, .int 0, .int 0, .int 0, .int 0] kd = some (.int (m0 : Int)) ∧ m0 ≤ 21 := by
    rcases eight bk with rfl | rfl | rfl | rfl | rfl | rfl | rfl | rfl
    · exact ⟨0, rfl, by decide⟩
    · exact ⟨19, rfl, by decide⟩
    · exact ⟨20, rfl, by decide⟩
    · exact ⟨21, rfl, by decide⟩
    · exact ⟨0, rfl, by decide⟩
    · exact ⟨0, rfl, by decide⟩
    · exact ⟨0, rfl, by decide⟩
    · exact ⟨0, rfl, by decide⟩
  obtain ⟨m0, hm0, m21⟩ := key
  walk_at "go"
  refine i_ix_lst (.inl (.inl upd_same)) hm0 ?_
  walk_at "go"
  refine i_cut (fun σ G => ∃ m : Nat, σ = [some (.ref a), some (.ref d.a), some (.ref nl), some (.int kd), some (.int (m : Int)), none, none, none, none, none, none, none, none] ∧ Dr K d N G ∧ m ≤ 21) ?_ ?_
  · walk_at "go"
    refine i_dec (fun _ => ?_) (fun _ => ⟨m0, rfl, dr4, m21⟩)
    walk_at "go"
    refine ⟨N, d, 6, rfl, rfl, dr4, by decide, fun k6 H5 dr5 b6 => ?_⟩
    obtain ⟨k6, rfl⟩ := Int.eq_ofNat_of_zero_le b6.1
    have := b6.2.1 (by decide)
    walk_at "go"
    exact ⟨1 + k6, by rw [Int.natCast_add]; rfl, dr5, by omega⟩
  clear hm0 m21 dr4 nl8 dr3 bk
  rintro σ G ⟨m, rfl, dr5, m21⟩
  walk_at "go"
  refine i_lcR ?_
  walk_at "go"
  refine i_lcRg (by omega) (by omega) (fun _ => rfl) fun wl nwl => ?_
  have kwl := dr5.free nwl
  refine ⟨fun i G => ∃ Hk acc gs, Same N Hk ∧ Hk wl = none ∧ Dr K d (upd Hk wl (.lst acc)) G ∧ AtAll Hk acc (gs.map .list) ∧ (∀ es ∈ gs, LineOK (m : Int) es) ∧ gs.length = i, ⟨N, [], [], Same.refl _, kwl, dr5.new nwl, .nil, fun _ h => absurd h (by simp), rfl⟩, ?_, ?_⟩
  · rintro i G hi ⟨Hk, acc, gs, s1, n1', d1, al, gd, wi⟩
    have cells := s1.seq dr5.cells
    have al' := al.len
    walk_at "n"
    walk_at "go"
    refine ⟨_, d, m, nl, n1, n2, rfl, rfl, rfl, rfl, by omega, by omega, d1, (upd_ne (ne_of_none (s1 _ _ hnl) n1')).trans (s1 _ _ hnl), w1, w2, fun t us es G2 nt d2 go => ?_⟩
    have ht := d2.old upd_same
    have d2 := d2.less ((same_upd n1').seq cells) nt
    walk_at "go"
    refine ⟨t, us, rfl, .inr (.inl (.inl ht)), fun l nl' => ?_⟩
    have d3 := d2.new (o := .lst us) nl'
    have hacc := d3.old ((upd_ne (fun z => by
      have := d2.old upd_same
      rw [z] at this
      rw [nl'] at this; cases this)).trans upd_same : (upd (upd Hk wl (.lst acc)) l (.lst us)) wl = some (.lst acc))
    have lw : l ≠ wl := fun z => by
      have := d2.old (q := wl) upd_same
      rw [← z, nl'] at this
      cases this
    have nlk : Hk l = none := by
      have := d2.free nl'
      rwa [upd_ne lw] at this
    rw [upd_comm lw.symm] at d3
    have nw2 : (upd Hk l (.lst us)) wl = none := (upd_ne lw.symm).trans n1'
    have el := (go.ats Hk).len
    have gl := go.len
    refine ⟨acc, hacc, by rw [al', List.length_map, wi, sizeLine_eq]; omega, upd Hk l (.lst us), acc ++ [.ref l], gs ++ [es], s1.trans (same_upd nlk), nw2, d3.put ((same_upd nlk).seq cells) nw2, ?_, ?_, by rw [List.length_append, wi]; rfl⟩
    · rw [List.map_append]
      exact (al.same (same_upd nlk)).app (.one (At.mkLst upd_same (go.ats _) (by omega)))
    · intro x hx
      rcases List.mem_append.mp hx with h | h
      · exact gd x h
      · rw [List.mem_singleton.mp h]; exact ⟨go.ok, go.fl, go.len⟩
  rintro G ⟨Hk0, acc, gs, s1, n1', d1, al0, gd, wi⟩
  have cells := (s1.trans (same_upd (o := .lst acc) n1')).seq dr5.cells
  have hw : At (upd Hk0 wl (.lst acc)) (.ref wl) (.list (gs.map .list)) := At.mkLst upd_same (al0.same (same_upd n1')) (by rw [List.length_map]; omega)
  generalize upd Hk0 wl (.lst acc) = Hk at *
  clear al0 n1' s1 nwl kwl dr5 dr2 dr s0 knl
  rw [Int.toNat_natCast] at wi
  have lines : ∀ e ∈ gs.map PyData.list, LineD 4 e := fun e he => by
    obtain ⟨es, h1, rfl⟩ := List.mem_map.mp he
    exact (gd es h1).line
  have llen : (gs.map PyData.list).length = m := by rw [List.length_map, wi]
  walk_at "go"
  refine ⟨_, hw.same d1.1, (ask_lines lines (by decide) (by omega)).1, fun G2 s2 => ?_⟩
  have d2 := d1.same s2
  clear s2 d1
  obtain ⟨_, xs, ew, hA, hxl, al⟩ := id hw.listed
  cases ew
  have xl := al.len
  walk_at "go"
  refine f_rng1 6 (fun R k => by walk_at "go"; exact k) (by decide) (fun i σ G => ∃ v6 v7 v8 v9 v10 Hk', σ = [some (.ref a), some (.ref d.a), some (.ref nl), some (.int kd), some (.int (m : Int)), some (.ref wl), v6, v7, v8, v9, v10, none, none] ∧ Same Hk Hk' ∧ Dr K d Hk' G) ⟨none, none, none, none, none, Hk, rfl, Same.refl _, d2⟩ ?_ ?_
  · rintro i σ G hi ⟨v6, v7, v8, v9, v10, Hk', rfl, sk, d3⟩
    show (_ : TS) _ [some (.ref a), some (.ref d.a), some (.ref nl), some (.int kd), some (.int (m : Int)), some (.ref wl), some (.int (i : Int)), v7, v8, v9, v10, none, none] G
    have hA' := sk _ _ hA
    have al' := al.same sk
    have cells' := sk.seq cells
    walk_at "go"
    refine c_lst (xs := xs) (fun R k => by walk_at "go"; exact k) (.inl (.inl (d3.old hA'))) (by omega) (fun _ => true) (fun i => xs.getD i .non) (fun _ => rfl) (fun i v H2 hi s2 QB k => k H2 (Same.refl H2)) (fun i v H2 hi s2 _ QV k => ?_) (fun bl G4 nb s4 hb => ?_)
    · walk_at "n"
      walk_at "go"
      have e : v = xs.getD i .non := by rw [List.getD_eq_getElem?_getD, hi]; rfl
      rw [← e] at k
      exact k H2 (Same.refl H2)
    rw [kept_all, range_getD] at hb
    have d4 := d3.got nb s4 hb
    have kb := d3.free nb
    clear d3 s4 hb
    walk_at "go"
    refine i_forR ?_
    walk_at "go"
    refine ⟨_, d, 2, rfl, rfl, d4, by decide, fun n5 G5 d5 b5 => ?_⟩
    have n50 := b5.1
    have n52 := b5.2.1 (by decide)
    walk_at "go"
    refine i_rngD (by omega) (by omega) (fun j σ G => ∃ v8 v9 Hq ys ds, σ = [some (.ref a), some (.ref d.a), some (.ref nl), some (.int kd), some (.int (m : Int)), some (.ref wl), some (.int (i : Int)), some (.ref bl), v8, v9, v10, none, none] ∧ Same Hk' Hq ∧ Hq bl = none ∧ Dr K d (upd Hq bl (.lst ys)) G ∧ AtAll Hq ys ds ∧ (∀ e ∈ ds, LineD (4 + j) e) ∧ ds.length = m) ⟨v8, v9, Hk', xs, _, rfl, Same.refl _, kb, d5, al', lines, llen⟩ ?_ ?_
    · rintro j σ G hj ⟨v8, v9, Hq, ys, ds, rfl, sq, nbq, d6, aly, ln, dl⟩
      show (_ : TS) _ [some (.ref a), some (.ref d.a), some (.ref nl), some (.int kd), some (.int (m : Int)), some (.ref wl), some (.int (i : Int)), some (.ref bl), some (.int (j : Int)), v9, v10, none, none] G
      have yl := aly.len
      have cq := sq.seq cells'
      walk_at "go"
      refine i_dec (fun em => ?_) (fun em => ?_)
      · walk_at "go"
        refine ⟨_, d, m, rfl, rfl, d6, by omega, fun pl G6 d7 bp => ?_⟩
        have p0 := bp.1
        have p1 : pl < (m : Int) := by
          by_cases z : 2 ≤ (m : Int)
          · exact bp.2.1 z
          · have := bp.2.2 (by omega); omega
        obtain ⟨pl, rfl⟩ := Int.eq_ofNat_of_zero_le p0
        have hpl : pl < ys.length := by omega
        have hyp : ys[pl]? = some ys[pl] := List.getElem?_eq_getElem hpl
        generalize ys[pl] = yv at hyp
        obtain ⟨e, he, ae⟩ := aly.get hyp
        walk_at "go"
        refine i_ix_lst (v := yv) (.inl (.inl (d7.old upd_same))) (atI_nat hyp) ?_
        walk_at "go"
        refine ⟨Hq, d, _, e, m, 4 + j, rfl, ae, ln e (List.mem_of_getElem? he), by omega, by omega, rfl, by omega, by omega, D2.of d7 nbq, fun Hq2 G8 v e2 sq2 d8 av le2 => ?_⟩
        obtain ⟨nb2, d9⟩ := d8.to
        walk_at "go"
        refine i_setL pl (d9.old upd_same) (Evl.ixN_nat hpl) rfl ?_
        have d10 := d9.put (o' := .lst (ys.set pl v)) (sq2.seq cq) nb2
        refine ⟨_, _, Hq2, ys.set pl v, ds.set pl e2, rfl, sq.trans sq2, nb2, d10, atAll_set (aly.same sq2) pl av, fun e3 h3 => ?_, by rw [List.length_set]; exact dl⟩
        rcases List.mem_or_eq_of_mem_set h3 with h3 | rfl
        · exact (ln e3 h3).mono (by omega)
        · exact le2
      · exact ⟨_, _, Hq, ys, ds, rfl, sq, nbq, d6, aly, fun e he => (ln e he).mono (by omega), dl⟩
    rintro σ G7 ⟨v8, v9, Hq, ys, ds, rfl, sq, nbq, d6, aly, ln, dl⟩
    have ln6 : ∀ e ∈ ds, LineD 6 e := fun e he => (ln e he).mono (by omega)
    have hb7 : At (upd Hq bl (.lst ys)) (.ref bl) (.list ds) := At.mkLst upd_same (aly.same (same_upd nbq)) (by omega)
    have sz := (sk.trans sq).trans (same_upd (o := .lst ys) nbq)
    generalize upd Hq bl (.lst ys) = Hz at *
    clear sq nbq aly ln d5 d4 kb
    walk_at "go"
    refine i_cut (fun σ G => ∃ Hy v e, σ = [some (.ref a), some (.ref d.a), some (.ref nl), some (.int kd), some (.int (m : Int)), some (.ref wl), some (.int (i : Int)), some (.ref bl), v8, v9, some v, none, none] ∧ Same Hz Hy ∧ Dr K d Hy G ∧ At Hy v e ∧ (e = .list ds ∨ e = .tuple ds)) ?_ ?_
    · walk_at "go"
      refine ⟨Hz, d, 2, rfl, rfl, d6, by decide, fun n7 G8 d7 b7 => ?_⟩
      walk_at "go"
      refine i_dec (fun _ => ?_) (fun _ => ?_)
      · walk_at "go"
        obtain ⟨_, ts, et, htA, htl, tal⟩ := id hb7.listed
        cases et
        refine i_tuple_lst (.inl (.inl (d7.old htA))) fun t nt => ?_
        have kt := d7.free nt
        walk_at "go"
        exact ⟨_, _, _, rfl, same_upd kt, d7.new nt, At.mkTup upd_same (tal.same (same_upd kt)) (by omega), .inr rfl⟩
      · exact ⟨_, _, _, rfl, Same.refl _, d7, hb7, .inl rfl⟩
    rintro σ G8 ⟨Hy, v, e, rfl, sy, d8, av, he⟩
    have ake : AskD e := by
      obtain ⟨h1, h2⟩ := ask_lines ln6 (by decide) (by omega)
      rcases he with rfl | rfl
      · exact h1
      · exact h2
    walk_at "go"
    refine ⟨e, av.same d8.1, ake, fun G9 s9 => ?_⟩
    walk_at "go"
    exact ⟨_, _, _, _, _, Hy, rfl, sz.trans sy, d8.same s9⟩
  · rintro σ G3 ⟨v6, v7, v8, v9, v10, Hk', rfl, sk, d3⟩
    have hw' := hw.same sk
    clear sk lines
    walk_at "go"
    refine i_new (by show 1 ≤ 100000; omega) fun p1 np1 => ?_
    obtain ⟨K1, s1, g1, d1⟩ := d3.step (.tup [S cSkip]) np1
    generalize upd G3 p1 (.tup [S cSkip]) = G4 at *
    walk_at "go"
    refine i_new (by show 2 ≤ 100000; omega) fun p2 np2 => ?_
    obtain ⟨K2, s2, g2, d2'⟩ := d1.step (.lst [S cGo, .int 0]) np2
    generalize upd G4 p2 (.lst [S cGo, .int 0]) = G5 at *
    walk_at "go"
    refine i_new (by show 0 ≤ 100000; omega) fun p3 np3 => ?_
    obtain ⟨K3, s3, g3, d3'⟩ := d2'.step (.tup []) np3
    generalize upd G5 p3 (.tup []) = G6 at *
    walk_at "go"
    refine i_new (by show 1 ≤ 100000; omega) fun p4 np4 => ?_
    obtain ⟨K4, s4, g4, d4⟩ := d3'.step (.tup [.ref p3]) np4
    generalize upd G6 p4 (.tup [.ref p3]) = G7 at *
    walk_at "go"
    refine i_new (by show 8 ≤ 100000; omega) fun p5 np5 => ?_
    obtain ⟨K5, s5, g5, d5⟩ := d4.step (.lst [.non, S cSkip, .int 5, .bl true, .ref p1, .ref p2, .ref p4, S []]) np5
    walk_at "go"
    refine ⟨K5, d, 8, rfl, rfl, d5, by decide, fun n8 G9 d9 b8 => ?_⟩
    have key : ∃ ov od, atI [V.non, S cSkip, .int 5, .bl true, .ref p1, .ref p2, .ref p4, S []] n8 = some ov ∧ At K5 ov od ∧ AskD od := by
      rcases eight b8 with rfl | rfl | rfl | rfl | rfl | rfl | rfl | rfl
      · exact ⟨_, _, rfl, .non, ask_of (by decide +kernel)⟩
      · exact ⟨_, _, rfl, .str cSkip (by decide), ask_of (by decide +kernel)⟩
      · exact ⟨_, _, rfl, .int 5, ask_of (by decide +kernel)⟩
      · exact ⟨_, _, rfl, .bl true, ask_of (by decide +kernel)⟩
      · exact ⟨_, .tuple [dS cSkip], rfl, At.mkTup ((((s2.trans s3).trans s4).trans s5) _ _ g1) (.one (.str _ (by decide))) (by decide), ask_of (by decide +kernel)⟩
      · exact ⟨_, .list [dS cGo, .int 0], rfl, At.mkLst (((s3.trans s4).trans s5) _ _ g2) (.cons (.str _ (by decide)) (.one (.int 0))) (by decide), ask_of (by decide +kernel)⟩
      · exact ⟨_, .tuple [.tuple []], rfl, At.mkTup (s5 _ _ g4) (.one (At.mkTup ((s4.trans s5) _ _ g3) .nil (by decide))) (by decide), ask_of (by decide +kernel)⟩
      · exact ⟨_, _, rfl, .str [] (by decide), ask_of (by decide +kernel)⟩
    obtain ⟨ov, od, hov, aov, ako⟩ := key
    refine i_ix_lst (.inl (.inl (d9.old g5))) hov ?_
    walk_at "go"
    refine ⟨od, aov.same d9.1, ako, fun G10 s10 => ?_⟩
    have d10 := d9.same s10
    have hw5 := hw'.same ((((s1.trans s2).trans s3).trans s4).trans s5)
    walk_at "go"
    refine i_dec (fun e1 => ?_) (fun _ => ?_)
    · walk_at "go"
      refine i_dec (fun e2 => ?_) (fun _ => ?_)
      · walk_at "go"
        exact ⟨K5, d, wl, gs, rfl, rfl, d10, hw5, ⟨fun es he => by rw [wi]; exact gd es he, by omega, by omega⟩, q⟩
      · walk_at "go"
        exact q _
    · walk_at "go"
      exact q _
end
end K42
namespace K42
open PySem PySem.Spec PyProof.Rows L2 Fg
theorem all_mk {l : PySem.W.OpenLaw} {w : World} {K : PySem.W.Frag} {h : Heap} {mg : Str → Option Value} {fa C_GlimError C_BadOrder C_BadReader C_NoLine C_Orders f1 f2 f3 f4 f5 f6 f7 f8 f9 f10 f11 f12 f13 f14 f15 f16 f17 f18 f19 f20 f21 f22 f23 f24 f25 f26 f27 f28 f29 f30 f31 f32 f33 f34 f35 f36 f37 : Addr} (X : K.In h) (G : h.Ns mainGlobals mg) (hfa : mg "law" = some (.ref fa))
    {od1 an1 od2 an2 od3 an3 od4 an4 od5 an5 od6 an6 od7 an7 od8 an8 od9 an9 od10 an10 od11 an11 od12 an12 od13 an13 od14 an14 od15 an15 od16 an16 od17 an17 od18 an18 od19 an19 od20 an20 od21 an21 od22 an22 od23 an23 od24 an24 od25 an25 od26 an26 od27 an27 od28 an28 od29 an29 od30 an30 od31 an31 od32 an32 od33 an33 od34 an34 od35 an35 od36 an36 od37 an37 : Option Addr} {sl1 sl2 sl3 sl4 sl5 sl6 sl7 sl8 sl9 sl10 sl11 sl12 sl13 sl14 sl15 sl16 sl17 sl18 sl19 sl20 sl21 sl22 sl23 sl24 sl25 sl26 sl27 sl28 sl29 sl30 sl31 sl32 sl33 sl34 sl35 sl36 sl37 : Array (Option Value)} {oc1 kV1 dc1 pm1 cd1 ct1 oc2 kV2 dc2 pm2 cd2 ct2 oc3 kV3 dc3 pm3 cd3 ct3 oc4 kV4 dc4 pm4 cd4 ct4 oc5 kV5 dc5 pm5 cd5 ct5 oc6 kV6 dc6 pm6 cd6 ct6 oc7 kV7 dc7 pm7 cd7 ct7 oc8 kV8 dc8 pm8 cd8 ct8 oc9 kV9 dc9 pm9 cd9 ct9 oc10 kV10 dc10 pm10 cd10 ct10 oc11 kV11 dc11 pm11 cd11 ct11 oc12 kV12 dc12 pm12 cd12 ct12 oc13 kV13 dc13 pm13 cd13 ct13 oc14 kV14 dc14 pm14 cd14 ct14 oc15 kV15 dc15 pm15 cd15 ct15 oc16 kV16 dc16 pm16 cd16 ct16 oc17 kV17 dc17 pm17 cd17 ct17 oc18 kV18 dc18 pm18 cd18 ct18 oc19 kV19 dc19 pm19 cd19 ct19 oc20 kV20 dc20 pm20 cd20 ct20 oc21 kV21 dc21 pm21 cd21 ct21 oc22 kV22 dc22 pm22 cd22 ct22 oc23 kV23 dc23 pm23 cd23 ct23 oc24 kV24 dc24 pm24 cd24 ct24 oc25 kV25 dc25 pm25 cd25 ct25 oc26 kV26 dc26 pm26 cd26 ct26 oc27 kV27 dc27 pm27 cd27 ct27 oc28 kV28 dc28 pm28 cd28 ct28 oc29 kV29 dc29 pm29 cd29 ct29 oc30 kV30 dc30 pm30 cd30 ct30 oc31 kV31 dc31 pm31 cd31 ct31 oc32 kV32 dc32 pm32 cd32 ct32 oc33 kV33 dc33 pm33 cd33 ct33 oc34 kV34 dc34 pm34 cd34 ct34 oc35 kV35 dc35 pm35 cd35 ct35 oc36 kV36 dc36 pm36 cd36 ct36 oc37 kV37 dc37 pm37 cd37 ct37 : Value}
    {nm_NoLine q_NoLine : Str} {N_NoLine : Addr} {bs_NoLine bm_NoLine : List Value} {sn_NoLine : List Str} {sub_NoLine : List Value} {ab_NoLine : Bool} {col_NoLine : Option Bool} {dd_NoLine : Option Addr} {m0_NoLine m1_NoLine m2_NoLine m3_NoLine m5_NoLine : Option Value}
    {nm_BadReader q_BadReader : Str} {N_BadReader : Addr} {bs_BadReader bm_BadReader : List Value} {sn_BadReader : List Str} {sub_BadReader : List Value} {ab_BadReader : Bool} {col_BadReader : Option Bool} {dd_BadReader : Option Addr} {m0_BadReader m1_BadReader m2_BadReader m3_BadReader m5_BadReader : Option Value}
    {nm_BadOrder q_BadOrder : Str} {N_BadOrder : Addr} {bs_BadOrder bm_BadOrder : List Value} {sn_BadOrder : List Str} {sub_BadOrder : List Value} {ab_BadOrder : Bool} {col_BadOrder : Option Bool} {dd_BadOrder : Option Addr} {m0_BadOrder m1_BadOrder m2_BadOrder m3_BadOrder m5_BadOrder : Option Value}
    {t_SIGNS t_MARK_SIGNS t_MOST_LEVELS t_MOST_LINES : Tok}
    {D2 : Addr} {oD2 : Value} {dD2 : Option Addr} {nD2 : Nat} {sD2 : Array (Option Value)} {td2_0 : Tok}
    (a1 : PySem.W.nsIn K mainGlobals "is_integer" = some (some (.ref f1)))
    (l1 : K.lookup f1 = some ⟨oc1, od1, .func (PySem.W.fnOf "is_integer" "is_integer" (defArgs s_is_integer) (defBody s_is_integer) (defScope s_is_integer) .none kV1 dc1 pm1 an1 cd1 ct1), sl1⟩)
    (c1 : PySem.W.codeIn K cd1 "is_integer" = true)
    (k1 : PySem.W.keepIn K (.ref f1) = true)
    (a2 : PySem.W.nsIn K mainGlobals "deep" = some (some (.ref f2)))
    (l2 : K.lookup f2 = some ⟨oc2, od2, .func (PySem.W.fnOf "deep" "deep" (defArgs s_deep) (defBody s_deep) (defScope s_deep) (.ref D2) kV2 dc2 pm2 an2 cd2 ct2), sl2⟩)
    (c2 : PySem.W.codeIn K cd2 "deep" = true)
    (k2 : PySem.W.keepIn K (.ref f2) = true)
    (e2 : K.lookup D2 = some ⟨oD2, dD2, .seq #[.int 0 td2_0] nD2, sD2⟩)
    (a3 : PySem.W.nsIn K mainGlobals "is_mark" = some (some (.ref f3)))
    (l3 : K.lookup f3 = some ⟨oc3, od3, .func (PySem.W.fnOf "is_mark" "is_mark" (defArgs s_is_mark) (defBody s_is_mark) (defScope s_is_mark) .none kV3 dc3 pm3 an3 cd3 ct3), sl3⟩)
    (c3 : PySem.W.codeIn K cd3 "is_mark" = true)
    (k3 : PySem.W.keepIn K (.ref f3) = true)
    (a4 : PySem.W.nsIn K mainGlobals "is_name" = some (some (.ref f4)))
    (l4 : K.lookup f4 = some ⟨oc4, od4, .func (PySem.W.fnOf "is_name" "is_name" (defArgs s_is_name) (defBody s_is_name) (defScope s_is_name) .none kV4 dc4 pm4 an4 cd4 ct4), sl4⟩)
    (c4 : PySem.W.codeIn K cd4 "is_name" = true)
    (k4 : PySem.W.keepIn K (.ref f4) = true)
    (a5 : PySem.W.nsIn K mainGlobals "is_signs" = some (some (.ref f5)))
    (l5 : K.lookup f5 = some ⟨oc5, od5, .func (PySem.W.fnOf "is_signs" "is_signs" (defArgs s_is_signs) (defBody s_is_signs) (defScope s_is_signs) .none kV5 dc5 pm5 an5 cd5 ct5), sl5⟩)
    (c5 : PySem.W.codeIn K cd5 "is_signs" = true)
    (k5 : PySem.W.keepIn K (.ref f5) = true)
    (a6 : PySem.W.nsIn K mainGlobals "is_order" = some (some (.ref f6)))
    (l6 : K.lookup f6 = some ⟨oc6, od6, .func (PySem.W.fnOf "is_order" "is_order" (defArgs s_is_order) (defBody s_is_order) (defScope s_is_order) .none kV6 dc6 pm6 an6 cd6 ct6), sl6⟩)
    (c6 : PySem.W.codeIn K cd6 "is_order" = true)
    (k6 : PySem.W.keepIn K (.ref f6) = true)
    (a7 : PySem.W.findIn K (.ref C_Orders) "__init__" = some (some (.ref f7)))
    (i7 : PySem.W.isFn K (.ref f7) = true)
    (l7 : K.lookup f7 = some ⟨oc7, od7, .func (PySem.W.fnOf "__init__" "Orders.__init__" (defArgs s_Orders___init__) (defBody s_Orders___init__) (defScope s_Orders___init__) .none kV7 dc7 pm7 an7 cd7 ct7), sl7⟩)
    (c7 : PySem.W.codeIn K cd7 "Orders.__init__" = true)
    (k7 : PySem.W.keepIn K (.ref f7) = true)
    (a8 : PySem.W.findIn K (.ref C_Orders) "__len__" = some (some (.ref f8)))
    (i8 : PySem.W.isFn K (.ref f8) = true)
    (l8 : K.lookup f8 = some ⟨oc8, od8, .func (PySem.W.fnOf "__len__" "Orders.__len__" (defArgs s_Orders___len__) (defBody s_Orders___len__) (defScope s_Orders___len__) .none kV8 dc8 pm8 an8 cd8 ct8), sl8⟩)
    (c8 : PySem.W.codeIn K cd8 "Orders.__len__" = true)
    (k8 : PySem.W.keepIn K (.ref f8) = true)
    (a9 : PySem.W.findIn K (.ref C_Orders) "__iter__" = some (some (.ref f9)))
    (i9 : PySem.W.isFn K (.ref f9) = true)
    (l9 : K.lookup f9 = some ⟨oc9, od9, .func (PySem.W.fnOf "__iter__" "Orders.__iter__" (defArgs s_Orders___iter__) (defBody s_Orders___iter__) (defScope s_Orders___iter__) .none kV9 dc9 pm9 an9 cd9 ct9), sl9⟩)
    (c9 : PySem.W.codeIn K cd9 "Orders.__iter__" = true)
    (k9 : PySem.W.keepIn K (.ref f9) = true)
    (a10 : PySem.W.findIn K (.ref C_Orders) "__getitem__" = some (some (.ref f10)))
    (i10 : PySem.W.isFn K (.ref f10) = true)
    (l10 : K.lookup f10 = some ⟨oc10, od10, .func (PySem.W.fnOf "__getitem__" "Orders.__getitem__" (defArgs s_Orders___getitem__) (defBody s_Orders___getitem__) (defScope s_Orders___getitem__) .none kV10 dc10 pm10 an10 cd10 ct10), sl10⟩)
    (c10 : PySem.W.codeIn K cd10 "Orders.__getitem__" = true)
    (k10 : PySem.W.keepIn K (.ref f10) = true)
    (a11 : PySem.W.findIn K (.ref C_Orders) "__eq__" = some (some (.ref f11)))
    (i11 : PySem.W.isFn K (.ref f11) = true)
    (l11 : K.lookup f11 = some ⟨oc11, od11, .func (PySem.W.fnOf "__eq__" "Orders.__eq__" (defArgs s_Orders___eq__) (defBody s_Orders___eq__) (defScope s_Orders___eq__) .none kV11 dc11 pm11 an11 cd11 ct11), sl11⟩)
    (c11 : PySem.W.codeIn K cd11 "Orders.__eq__" = true)
    (k11 : PySem.W.keepIn K (.ref f11) = true)
    (a12 : PySem.W.nsIn K mainGlobals "_law_draw" = some (some (.ref f12)))
    (l12 : K.lookup f12 = some ⟨oc12, od12, .func (PySem.W.fnOf "_law_draw" "_law_draw" (defArgs s_L_draw) (defBody s_L_draw) (defScope s_L_draw) .none kV12 dc12 pm12 an12 cd12 ct12), sl12⟩)
    (c12 : PySem.W.codeIn K cd12 "_law_draw" = true)
    (k12 : PySem.W.keepIn K (.ref f12) = true)
    (a13 : PySem.W.nsIn K mainGlobals "_law_mix" = some (some (.ref f13)))
    (l13 : K.lookup f13 = some ⟨oc13, od13, .func (PySem.W.fnOf "_law_mix" "_law_mix" (defArgs s_L_mix) (defBody s_L_mix) (defScope s_L_mix) .none kV13 dc13 pm13 an13 cd13 ct13), sl13⟩)
    (c13 : PySem.W.codeIn K cd13 "_law_mix" = true)
    (k13 : PySem.W.keepIn K (.ref f13) = true)
    (a14 : PySem.W.nsIn K mainGlobals "_law_pick" = some (some (.ref f14)))
    (l14 : K.lookup f14 = some ⟨oc14, od14, .func (PySem.W.fnOf "_law_pick" "_law_pick" (defArgs s_L_pick) (defBody s_L_pick) (defScope s_L_pick) .none kV14 dc14 pm14 an14 cd14 ct14), sl14⟩)
    (c14 : PySem.W.codeIn K cd14 "_law_pick" = true)
    (k14 : PySem.W.keepIn K (.ref f14) = true)
    (a15 : PySem.W.nsIn K mainGlobals "_law_is_int" = some (some (.ref f15)))
    (l15 : K.lookup f15 = some ⟨oc15, od15, .func (PySem.W.fnOf "_law_is_int" "_law_is_int" (defArgs s_L_is_int) (defBody s_L_is_int) (defScope s_L_is_int) .none kV15 dc15 pm15 an15 cd15 ct15), sl15⟩)
    (c15 : PySem.W.codeIn K cd15 "_law_is_int" = true)
    (k15 : PySem.W.keepIn K (.ref f15) = true)
    (a16 : PySem.W.nsIn K mainGlobals "_law_name" = some (some (.ref f16)))
    (l16 : K.lookup f16 = some ⟨oc16, od16, .func (PySem.W.fnOf "_law_name" "_law_name" (defArgs s_L_name) (defBody s_L_name) (defScope s_L_name) .none kV16 dc16 pm16 an16 cd16 ct16), sl16⟩)
    (c16 : PySem.W.codeIn K cd16 "_law_name" = true)
    (k16 : PySem.W.keepIn K (.ref f16) = true)
    (a17 : PySem.W.nsIn K mainGlobals "_law_names" = some (some (.ref f17)))
    (l17 : K.lookup f17 = some ⟨oc17, od17, .func (PySem.W.fnOf "_law_names" "_law_names" (defArgs s_L_names) (defBody s_L_names) (defScope s_L_names) .none kV17 dc17 pm17 an17 cd17 ct17), sl17⟩)
    (c17 : PySem.W.codeIn K cd17 "_law_names" = true)
    (k17 : PySem.W.keepIn K (.ref f17) = true)
    (a18 : PySem.W.nsIn K mainGlobals "_law_signs" = some (some (.ref f18)))
    (l18 : K.lookup f18 = some ⟨oc18, od18, .func (PySem.W.fnOf "_law_signs" "_law_signs" (defArgs s_L_signs) (defBody s_L_signs) (defScope s_L_signs) .none kV18 dc18 pm18 an18 cd18 ct18), sl18⟩)
    (c18 : PySem.W.codeIn K cd18 "_law_signs" = true)
    (k18 : PySem.W.keepIn K (.ref f18) = true)
    (a19 : PySem.W.nsIn K mainGlobals "_law_order" = some (some (.ref f19)))
    (l19 : K.lookup f19 = some ⟨oc19, od19, .func (PySem.W.fnOf "_law_order" "_law_order" (defArgs s_L_order) (defBody s_L_order) (defScope s_L_order) .none kV19 dc19 pm19 an19 cd19 ct19), sl19⟩)
    (c19 : PySem.W.codeIn K cd19 "_law_order" = true)
    (k19 : PySem.W.keepIn K (.ref f19) = true)
    (a20 : PySem.W.nsIn K mainGlobals "_law_form" = some (some (.ref f20)))
    (l20 : K.lookup f20 = some ⟨oc20, od20, .func (PySem.W.fnOf "_law_form" "_law_form" (defArgs s_L_form) (defBody s_L_form) (defScope s_L_form) .none kV20 dc20 pm20 an20 cd20 ct20), sl20⟩)
    (c20 : PySem.W.codeIn K cd20 "_law_form" = true)
    (k20 : PySem.W.keepIn K (.ref f20) = true)
    (a21 : PySem.W.nsIn K mainGlobals "_law_is_name" = some (some (.ref f21)))
    (l21 : K.lookup f21 = some ⟨oc21, od21, .func (PySem.W.fnOf "_law_is_name" "_law_is_name" (defArgs s_L_is_name) (defBody s_L_is_name) (defScope s_L_is_name) .none kV21 dc21 pm21 an21 cd21 ct21), sl21⟩)
    (c21 : PySem.W.codeIn K cd21 "_law_is_name" = true)
    (k21 : PySem.W.keepIn K (.ref f21) = true)
    (a22 : PySem.W.nsIn K mainGlobals "_law_is_signs" = some (some (.ref f22)))
    (l22 : K.lookup f22 = some ⟨oc22, od22, .func (PySem.W.fnOf "_law_is_signs" "_law_is_signs" (defArgs s_L_is_signs) (defBody s_L_is_signs) (defScope s_L_is_signs) .none kV22 dc22 pm22 an22 cd22 ct22), sl22⟩)
    (c22 : PySem.W.codeIn K cd22 "_law_is_signs" = true)
    (k22 : PySem.W.keepIn K (.ref f22) = true)
    (a23 : PySem.W.nsIn K mainGlobals "_law_is_thing" = some (some (.ref f23)))
    (l23 : K.lookup f23 = some ⟨oc23, od23, .func (PySem.W.fnOf "_law_is_thing" "_law_is_thing" (defArgs s_L_is_thing) (defBody s_L_is_thing) (defScope s_L_is_thing) .none kV23 dc23 pm23 an23 cd23 ct23), sl23⟩)
    (c23 : PySem.W.codeIn K cd23 "_law_is_thing" = true)
    (k23 : PySem.W.keepIn K (.ref f23) = true)
    (a24 : PySem.W.nsIn K mainGlobals "_law_is_order" = some (some (.ref f24)))
    (l24 : K.lookup f24 = some ⟨oc24, od24, .func (PySem.W.fnOf "_law_is_order" "_law_is_order" (defArgs s_L_is_order) (defBody s_L_is_order) (defScope s_L_is_order) .none kV24 dc24 pm24 an24 cd24 ct24), sl24⟩)
    (c24 : PySem.W.codeIn K cd24 "_law_is_order" = true)
    (k24 : PySem.W.keepIn K (.ref f24) = true)
    (a25 : PySem.W.nsIn K mainGlobals "_law_due" = some (some (.ref f25)))
    (l25 : K.lookup f25 = some ⟨oc25, od25, .func (PySem.W.fnOf "_law_due" "_law_due" (defArgs s_L_due) (defBody s_L_due) (defScope s_L_due) .none kV25 dc25 pm25 an25 cd25 ct25), sl25⟩)
    (c25 : PySem.W.codeIn K cd25 "_law_due" = true)
    (k25 : PySem.W.keepIn K (.ref f25) = true)
    (a26 : PySem.W.nsIn K mainGlobals "_law_odd" = some (some (.ref f26)))
    (l26 : K.lookup f26 = some ⟨oc26, od26, .func (PySem.W.fnOf "_law_odd" "_law_odd" (defArgs s_L_odd) (defBody s_L_odd) (defScope s_L_odd) .none kV26 dc26 pm26 an26 cd26 ct26), sl26⟩)
    (c26 : PySem.W.codeIn K cd26 "_law_odd" = true)
    (k26 : PySem.W.keepIn K (.ref f26) = true)
    (a27 : PySem.W.nsIn K mainGlobals "_law_odd_line" = some (some (.ref f27)))
    (l27 : K.lookup f27 = some ⟨oc27, od27, .func (PySem.W.fnOf "_law_odd_line" "_law_odd_line" (defArgs s_L_odd_line) (defBody s_L_odd_line) (defScope s_L_odd_line) .none kV27 dc27 pm27 an27 cd27 ct27), sl27⟩)
    (c27 : PySem.W.codeIn K cd27 "_law_odd_line" = true)
    (k27 : PySem.W.keepIn K (.ref f27) = true)
    (a28 : PySem.W.nsIn K mainGlobals "_law_spoilt" = some (some (.ref f28)))
    (l28 : K.lookup f28 = some ⟨oc28, od28, .func (PySem.W.fnOf "_law_spoilt" "_law_spoilt" (defArgs s_L_spoilt) (defBody s_L_spoilt) (defScope s_L_spoilt) .none kV28 dc28 pm28 an28 cd28 ct28), sl28⟩)
    (c28 : PySem.W.codeIn K cd28 "_law_spoilt" = true)
    (k28 : PySem.W.keepIn K (.ref f28) = true)
    (a29 : PySem.W.nsIn K mainGlobals "_law_tried" = some (some (.ref f29)))
    (l29 : K.lookup f29 = some ⟨oc29, od29, .func (PySem.W.fnOf "_law_tried" "_law_tried" (defArgs s_L_tried) (defBody s_L_tried) (defScope s_L_tried) .none kV29 dc29 pm29 an29 cd29 ct29), sl29⟩)
    (c29 : PySem.W.codeIn K cd29 "_law_tried" = true)
    (k29 : PySem.W.keepIn K (.ref f29) = true)
    (a30 : PySem.W.nsIn K mainGlobals "_law_no_line" = some (some (.ref f30)))
    (l30 : K.lookup f30 = some ⟨oc30, od30, .func (PySem.W.fnOf "_law_no_line" "_law_no_line" (defArgs s_L_no_line) (defBody s_L_no_line) (defScope s_L_no_line) .none kV30 dc30 pm30 an30 cd30 ct30), sl30⟩)
    (c30 : PySem.W.codeIn K cd30 "_law_no_line" = true)
    (k30 : PySem.W.keepIn K (.ref f30) = true)
    (a31 : PySem.W.nsIn K mainGlobals "_law_tells" = some (some (.ref f31)))
    (l31 : K.lookup f31 = some ⟨oc31, od31, .func (PySem.W.fnOf "_law_tells" "_law_tells" (defArgs s_L_tells) (defBody s_L_tells) (defScope s_L_tells) .none kV31 dc31 pm31 an31 cd31 ct31), sl31⟩)
    (c31 : PySem.W.codeIn K cd31 "_law_tells" = true)
    (k31 : PySem.W.keepIn K (.ref f31) = true)
    (a32 : PySem.W.nsIn K mainGlobals "_law_right" = some (some (.ref f32)))
    (l32 : K.lookup f32 = some ⟨oc32, od32, .func (PySem.W.fnOf "_law_right" "_law_right" (defArgs s_L_right) (defBody s_L_right) (defScope s_L_right) .none kV32 dc32 pm32 an32 cd32 ct32), sl32⟩)
    (c32 : PySem.W.codeIn K cd32 "_law_right" = true)
    (k32 : PySem.W.keepIn K (.ref f32) = true)
    (a33 : PySem.W.nsIn K mainGlobals "_law_asked" = some (some (.ref f33)))
    (l33 : K.lookup f33 = some ⟨oc33, od33, .func (PySem.W.fnOf "_law_asked" "_law_asked" (defArgs s_L_asked) (defBody s_L_asked) (defScope s_L_asked) .none kV33 dc33 pm33 an33 cd33 ct33), sl33⟩)
    (c33 : PySem.W.codeIn K cd33 "_law_asked" = true)
    (k33 : PySem.W.keepIn K (.ref f33) = true)
    (a34 : PySem.W.nsIn K mainGlobals "law" = some (some (.ref f34)))
    (l34 : K.lookup f34 = some ⟨oc34, od34, .func (PySem.W.fnOf "law" "law" (defArgs s_law) (defBody s_law) (defScope s_law) .none kV34 dc34 pm34 an34 cd34 ct34), sl34⟩)
    (c34 : PySem.W.codeIn K cd34 "law" = true)
    (k34 : PySem.W.keepIn K (.ref f34) = true)
    (wpg_Orders : PySem.W.plainGet K C_Orders Str.empty = true)
    (whd_Orders : PySem.W.hasDictIn K C_Orders = true)
    (wpo_Orders : PySem.W.plainOver K C_Orders = true)
    (wsa_Orders : PySem.W.findIn K (.ref C_Orders) "__setattr__" = some (some (.builtin "object.__setattr__")))
    (wmk_Orders : PySem.W.makesIn K C_Orders = true)
    (wkc_Orders : PySem.W.keepIn K (.ref C_Orders) = true)
    (wca_Orders : PySem.W.findIn K (.ref C_Orders) "__class__" = some (some (.builtin "object.__class__")))
    (wmo_Orders : PySem.W.mroIn K C_Orders (.type "object") = some true)
    (wnt_Orders : PySem.W.notFirst K C_Orders (.type "tuple") = true)
    (wst_Orders : PySem.W.subIn K (.ref C_Orders) (.type "tuple") = some false)
    (wna_Orders_lines : PySem.W.findIn K (.ref C_Orders) "lines" = some none)
    (z_ValueError : PySem.W.nsIn K mainGlobals "ValueError" = some none)
    (z_abs : PySem.W.nsIn K mainGlobals "abs" = some none)
    (z_bool : PySem.W.nsIn K mainGlobals "bool" = some none)
    (z_enumerate : PySem.W.nsIn K mainGlobals "enumerate" = some none)
    (z_int : PySem.W.nsIn K mainGlobals "int" = some none)
    (z_isinstance : PySem.W.nsIn K mainGlobals "isinstance" = some none)
    (z_iter : PySem.W.nsIn K mainGlobals "iter" = some none)
    (z_len : PySem.W.nsIn K mainGlobals "len" = some none)
    (z_list : PySem.W.nsIn K mainGlobals "list" = some none)
    (z_range : PySem.W.nsIn K mainGlobals "range" = some none)
    (z_repr : PySem.W.nsIn K mainGlobals "repr" = some none)
    (z_str : PySem.W.nsIn K mainGlobals "str" = some none)
    (z_sum : PySem.W.nsIn K mainGlobals "sum" = some none)
    (z_tuple : PySem.W.nsIn K mainGlobals "tuple" = some none)
    (v_SIGNS : PySem.W.nsIn K mainGlobals "SIGNS" = some (some (.str ".grw" t_SIGNS)))
    (v_MARK_SIGNS : PySem.W.nsIn K mainGlobals "MARK_SIGNS" = some (some (.str "abcdefghijklmnopqrstuvwxyz0123456789" t_MARK_SIGNS)))
    (v_MOST_LEVELS : PySem.W.nsIn K mainGlobals "MOST_LEVELS" = some (some (.int 70 t_MOST_LEVELS)))
    (v_MOST_LINES : PySem.W.nsIn K mainGlobals "MOST_LINES" = some (some (.int 20 t_MOST_LINES)))
    (g_GlimError : PySem.W.nsIn K mainGlobals "GlimError" = some (some (.ref C_GlimError)))
    (g_BadOrder : PySem.W.nsIn K mainGlobals "BadOrder" = some (some (.ref C_BadOrder)))
    (g_BadReader : PySem.W.nsIn K mainGlobals "BadReader" = some (some (.ref C_BadReader)))
    (g_NoLine : PySem.W.nsIn K mainGlobals "NoLine" = some (some (.ref C_NoLine)))
    (g_Orders : PySem.W.nsIn K mainGlobals "Orders" = some (some (.ref C_Orders)))
    (xl_BadOrder : K.lookup C_BadOrder = some (excClassObj nm_BadOrder q_BadOrder C_BadOrder N_BadOrder bs_BadOrder bm_BadOrder true sn_BadOrder sub_BadOrder ab_BadOrder col_BadOrder dd_BadOrder m0_BadOrder m1_BadOrder m2_BadOrder m3_BadOrder m5_BadOrder "ValueError.__new__"))
    (xr_BadOrder : PySem.HandSPX.refsVE bm_BadOrder = true)
    (xsa_BadOrder : PySem.W.findIn K (.ref C_BadOrder) "__setattr__" = some (some (.builtin "object.__setattr__")))
    (xga_BadOrder : PySem.W.findIn K (.ref C_BadOrder) "__getattribute__" = some (some (.builtin "BaseException.__getattribute__")))
    (xgg_BadOrder : PySem.W.findIn K (.ref C_BadOrder) "__getattr__" = some none)
    (xnf_BadOrder_number : PySem.W.findIn K (.ref C_BadOrder) "number" = some none)
    (xi_BadOrder : PySem.W.findIn K (.ref C_BadOrder) "__init__" = some (some (.ref f35)))
    (xt_BadOrder : PySem.W.typeIn K (.ref f35) = some (.type "function"))
    (xf_BadOrder : K.lookup f35 = some ⟨oc35, od35, .func (PySem.W.fnOf "__init__" "BadOrder.__init__" (defArgs s_BadOrder) (defBody s_BadOrder) (defScope s_BadOrder) .none kV35 dc35 pm35 an35 cd35 ct35), sl35⟩)
    (xc_BadOrder : PySem.W.codeIn K cd35 "BadOrder.__init__" = true)
    (xkf_BadOrder : PySem.W.keepIn K (.ref f35) = true)
    (xk_BadOrder : PySem.W.keepIn K (.ref C_BadOrder) = true)
    (xe_BadOrder : PySem.W.subIn K (.ref C_BadOrder) (.type "BaseException") = some true)
    (xty_BadOrder : PySem.W.typeIn K (.ref C_BadOrder) = some (.type "type"))
    (xhd_BadOrder : PySem.W.hasDictIn K C_BadOrder = true)
    (xis_BadOrder : PySem.W.isClsIn K C_BadOrder = true)
    (xca_BadOrder : PySem.W.findIn K (.ref C_BadOrder) "__class__" = some (some (.builtin "object.__class__")))
    (xm_BadOrder : PySem.W.mroIn K C_BadOrder (.type "object") = some true)
    (xl_BadReader : K.lookup C_BadReader = some (excClassObj nm_BadReader q_BadReader C_BadReader N_BadReader bs_BadReader bm_BadReader true sn_BadReader sub_BadReader ab_BadReader col_BadReader dd_BadReader m0_BadReader m1_BadReader m2_BadReader m3_BadReader m5_BadReader "ValueError.__new__"))
    (xr_BadReader : PySem.HandSPX.refsVE bm_BadReader = true)
    (xsa_BadReader : PySem.W.findIn K (.ref C_BadReader) "__setattr__" = some (some (.builtin "object.__setattr__")))
    (xga_BadReader : PySem.W.findIn K (.ref C_BadReader) "__getattribute__" = some (some (.builtin "BaseException.__getattribute__")))
    (xgg_BadReader : PySem.W.findIn K (.ref C_BadReader) "__getattr__" = some none)
    (xnf_BadReader_number : PySem.W.findIn K (.ref C_BadReader) "number" = some none)
    (xi_BadReader : PySem.W.findIn K (.ref C_BadReader) "__init__" = some (some (.ref f36)))
    (xt_BadReader : PySem.W.typeIn K (.ref f36) = some (.type "function"))
    (xf_BadReader : K.lookup f36 = some ⟨oc36, od36, .func (PySem.W.fnOf "__init__" "BadReader.__init__" (defArgs s_BadReader) (defBody s_BadReader) (defScope s_BadReader) .none kV36 dc36 pm36 an36 cd36 ct36), sl36⟩)
    (xc_BadReader : PySem.W.codeIn K cd36 "BadReader.__init__" = true)
    (xkf_BadReader : PySem.W.keepIn K (.ref f36) = true)
    (xk_BadReader : PySem.W.keepIn K (.ref C_BadReader) = true)
    (xe_BadReader : PySem.W.subIn K (.ref C_BadReader) (.type "BaseException") = some true)
    (xty_BadReader : PySem.W.typeIn K (.ref C_BadReader) = some (.type "type"))
    (xhd_BadReader : PySem.W.hasDictIn K C_BadReader = true)
    (xis_BadReader : PySem.W.isClsIn K C_BadReader = true)
    (xca_BadReader : PySem.W.findIn K (.ref C_BadReader) "__class__" = some (some (.builtin "object.__class__")))
    (xm_BadReader : PySem.W.mroIn K C_BadReader (.type "object") = some true)
    (xl_NoLine : K.lookup C_NoLine = some (excClassObj nm_NoLine q_NoLine C_NoLine N_NoLine bs_NoLine bm_NoLine true sn_NoLine sub_NoLine ab_NoLine col_NoLine dd_NoLine m0_NoLine m1_NoLine m2_NoLine m3_NoLine m5_NoLine "ValueError.__new__"))
    (xr_NoLine : PySem.HandSPX.refsVE bm_NoLine = true)
    (xsa_NoLine : PySem.W.findIn K (.ref C_NoLine) "__setattr__" = some (some (.builtin "object.__setattr__")))
    (xga_NoLine : PySem.W.findIn K (.ref C_NoLine) "__getattribute__" = some (some (.builtin "BaseException.__getattribute__")))
    (xgg_NoLine : PySem.W.findIn K (.ref C_NoLine) "__getattr__" = some none)
    (xnf_NoLine_number : PySem.W.findIn K (.ref C_NoLine) "number" = some none)
    (xi_NoLine : PySem.W.findIn K (.ref C_NoLine) "__init__" = some (some (.ref f37)))
    (xt_NoLine : PySem.W.typeIn K (.ref f37) = some (.type "function"))
    (xf_NoLine : K.lookup f37 = some ⟨oc37, od37, .func (PySem.W.fnOf "__init__" "NoLine.__init__" (defArgs s_NoLine) (defBody s_NoLine) (defScope s_NoLine) .none kV37 dc37 pm37 an37 cd37 ct37), sl37⟩)
    (xc_NoLine : PySem.W.codeIn K cd37 "NoLine.__init__" = true)
    (xkf_NoLine : PySem.W.keepIn K (.ref f37) = true)
    (xk_NoLine : PySem.W.keepIn K (.ref C_NoLine) = true)
    (xe_NoLine : PySem.W.subIn K (.ref C_NoLine) (.type "BaseException") = some true)
    (xty_NoLine : PySem.W.typeIn K (.ref C_NoLine) = some (.type "type"))
    (xhd_NoLine : PySem.W.hasDictIn K C_NoLine = true)
    (xis_NoLine : PySem.W.isClsIn K C_NoLine = true)
    (xca_NoLine : PySem.W.findIn K (.ref C_NoLine) "__class__" = some (some (.builtin "object.__class__")))
    (xm_NoLine : PySem.W.mroIn K C_NoLine (.type "object") = some true)
    (xsp : PySem.W.specialIn K (.builtin "object.__class__") "__get__" = some (some (.builtin "getset_descriptor.__get__")))
    (xtk : PySem.W.takesIn K (.builtin "object.__class__") = some true)
    (qi_BadOrder : PySem.W.isClsIn K C_BadOrder = true)
    (qt_BadOrder : PySem.W.typeIn K (.ref C_BadOrder) = some (.type "type"))
    (qs_BadOrder : PySem.W.subIn K (.ref C_BadOrder) (.ref C_BadOrder) = some true)
    (qb_BadOrder : PySem.W.subIn K (.ref C_BadOrder) (.type "BaseException") = some true)
    (qi_BadReader : PySem.W.isClsIn K C_BadReader = true)
    (qt_BadReader : PySem.W.typeIn K (.ref C_BadReader) = some (.type "type"))
    (qs_BadReader : PySem.W.subIn K (.ref C_BadReader) (.ref C_BadReader) = some true)
    (qb_BadReader : PySem.W.subIn K (.ref C_BadReader) (.type "BaseException") = some true)
    (qi_GlimError : PySem.W.isClsIn K C_GlimError = true)
    (qt_GlimError : PySem.W.typeIn K (.ref C_GlimError) = some (.type "type"))
    (qs_GlimError : PySem.W.subIn K (.ref C_GlimError) (.ref C_GlimError) = some true)
    (qb_GlimError : PySem.W.subIn K (.ref C_GlimError) (.type "BaseException") = some true)
    (qi_NoLine : PySem.W.isClsIn K C_NoLine = true)
    (qt_NoLine : PySem.W.typeIn K (.ref C_NoLine) = some (.type "type"))
    (qs_NoLine : PySem.W.subIn K (.ref C_NoLine) (.ref C_NoLine) = some true)
    (qb_NoLine : PySem.W.subIn K (.ref C_NoLine) (.type "BaseException") = some true)
    (qi_Orders : PySem.W.isClsIn K C_Orders = true)
    (qt_Orders : PySem.W.typeIn K (.ref C_Orders) = some (.type "type"))
    (qs_Orders : PySem.W.subIn K (.ref C_Orders) (.ref C_Orders) = some true)
    (y_NoLine_NoLine : PySem.W.subIn K (.ref C_NoLine) (.ref C_NoLine) = some true)
    (y_NoLine_BadOrder : PySem.W.subIn K (.ref C_NoLine) (.ref C_BadOrder) = some false)
    (y_BadOrder_BadOrder : PySem.W.subIn K (.ref C_BadOrder) (.ref C_BadOrder) = some true)
    (y_BadOrder_ValueError : PySem.W.subIn K (.ref C_BadOrder) (.type "ValueError") = some true)
    (y_BadOrder_BadReader : PySem.W.subIn K (.ref C_BadOrder) (.ref C_BadReader) = some false)
    (y_Orders_Orders : PySem.W.subIn K (.ref C_Orders) (.ref C_Orders) = some true)
    (y_tuple_Orders : PySem.W.subIn K (.type "tuple") (.ref C_Orders) = some false)
    (x_BadOrder_GlimError : PySem.W.subIn K (.ref C_BadOrder) (.ref C_GlimError) = some true)
    (x_NoLine_GlimError : PySem.W.subIn K (.ref C_NoLine) (.ref C_GlimError) = some true)
    : ∃ fd : FuncData, (∀ (s : Shared) (v : Value), BindsTo s fd ⟨[v], []⟩ [("_law_script", v)]) ∧ ∀ base : Heap, K.In base → base.Ns mainGlobals mg → GOk l.prog w K mg base CX0 11 fa fd ["_law_script"] (sp1 (p_law K)) := by
  have e := hfa.symm.trans (PySem.W.mg_of X G a34)
  cases e
  have F1 := fun_mk (st := s_is_integer) l1 c1 k1
  have F2 : FunD K "deep" "deep" (defArgs s_deep) (defBody s_deep) (defScope s_deep) [.int 0] [] f2 _ := ⟨⟨_, _, _, _, _, _, _, _, _, _, rfl, l2, c2, (.inr ⟨by simp, D2, _, _, _, rfl, e2, rfl, (.cons ⟨_, rfl⟩ .nil)⟩), .inl rfl⟩, k2⟩
  have E2 := FunD.binds1 (ps := ["thing", "level"]) F2 1 0 (by simp) rfl fun _ _ _ _ _ _ _ us its h1 h2 => match us, its, h1, h2 with | [_], [_], _, _ => ⟨_, rfl, rfl⟩
  have B2 := FunD.binds1 (ps := ["thing", "level"]) F2 2 1 (by simp) rfl fun _ _ _ _ _ _ _ us its h1 h2 => match us, its, h1, h2 with | [_, _], [_], _, _ => ⟨_, rfl, rfl⟩
  have B2 : Binds K _ ["thing", "level"] [] := (by obtain ⟨ds, h1, h2⟩ := B2; cases h1; exact h2)
  have F3 := fun_mk (st := s_is_mark) l3 c3 k3
  have F4 := fun_mk (st := s_is_name) l4 c4 k4
  have F5 := fun_mk (st := s_is_signs) l5 c5 k5
  have F6 := fun_mk (st := s_is_order) l6 c6 k6
  have F7 : FunD K "__init__" "Orders.__init__" (defArgs s_Orders___init__) (defBody s_Orders___init__) (defScope s_Orders___init__) [] [] f7 _ := ⟨⟨_, _, _, _, _, _, _, _, _, _, rfl, l7, c7, (.inl ⟨rfl, rfl⟩), .inl rfl⟩, k7⟩
  have B7 : Binds K _ ["self", "lines"] [] := FunD.bindsN (ps := ["self", "lines"]) F7 fun _ _ _ _ _ _ us hl => match us, hl with | [_, _], _ => rfl
  have E7 : ∃ ds, Vals [] ds ∧ Binds K _ ["self", "lines"] ds := ⟨[], .nil, B7⟩
  have F8 : FunD K "__len__" "Orders.__len__" (defArgs s_Orders___len__) (defBody s_Orders___len__) (defScope s_Orders___len__) [] [] f8 _ := ⟨⟨_, _, _, _, _, _, _, _, _, _, rfl, l8, c8, (.inl ⟨rfl, rfl⟩), .inl rfl⟩, k8⟩
  have B8 : Binds K _ ["self"] [] := FunD.bindsN (ps := ["self"]) F8 fun _ _ _ _ _ _ us hl => match us, hl with | [_], _ => rfl
  have E8 : ∃ ds, Vals [] ds ∧ Binds K _ ["self"] ds := ⟨[], .nil, B8⟩
  have F9 : FunD K "__iter__" "Orders.__iter__" (defArgs s_Orders___iter__) (defBody s_Orders___iter__) (defScope s_Orders___iter__) [] [] f9 _ := ⟨⟨_, _, _, _, _, _, _, _, _, _, rfl, l9, c9, (.inl ⟨rfl, rfl⟩), .inl rfl⟩, k9⟩
  have B9 : Binds K _ ["self"] [] := FunD.bindsN (ps := ["self"]) F9 fun _ _ _ _ _ _ us hl => match us, hl with | [_], _ => rfl
  have E9 : ∃ ds, Vals [] ds ∧ Binds K _ ["self"] ds := ⟨[], .nil, B9⟩
  have F10 : FunD K "__getitem__" "Orders.__getitem__" (defArgs s_Orders___getitem__) (defBody s_Orders___getitem__) (defScope s_Orders___getitem__) [] [] f10 _ := ⟨⟨_, _, _, _, _, _, _, _, _, _, rfl, l10, c10, (.inl ⟨rfl, rfl⟩), .inl rfl⟩, k10⟩
  have B10 : Binds K _ ["self", "number"] [] := FunD.bindsN (ps := ["self", "number"]) F10 fun _ _ _ _ _ _ us hl => match us, hl with | [_, _], _ => rfl
  have E10 : ∃ ds, Vals [] ds ∧ Binds K _ ["self", "number"] ds := ⟨[], .nil, B10⟩
  have F11 : FunD K "__eq__" "Orders.__eq__" (defArgs s_Orders___eq__) (defBody s_Orders___eq__) (defScope s_Orders___eq__) [] [] f11 _ := ⟨⟨_, _, _, _, _, _, _, _, _, _, rfl, l11, c11, (.inl ⟨rfl, rfl⟩), .inl rfl⟩, k11⟩
  have B11 : Binds K _ ["self", "other"] [] := FunD.bindsN (ps := ["self", "other"]) F11 fun _ _ _ _ _ _ us hl => match us, hl with | [_, _], _ => rfl
  have E11 : ∃ ds, Vals [] ds ∧ Binds K _ ["self", "other"] ds := ⟨[], .nil, B11⟩
  have F12 := fun_mk (st := s_L_draw) l12 c12 k12
  have F13 := fun_mk (st := s_L_mix) l13 c13 k13
  have F14 := fun_mk (st := s_L_pick) l14 c14 k14
  have F15 := fun_mk (st := s_L_is_int) l15 c15 k15
  have F16 := fun_mk (st := s_L_name) l16 c16 k16
  have F17 := fun_mk (st := s_L_names) l17 c17 k17
  have F18 := fun_mk (st := s_L_signs) l18 c18 k18
  have F19 := fun_mk (st := s_L_order) l19 c19 k19
  have F20 := fun_mk (st := s_L_form) l20 c20 k20
  have F21 := fun_mk (st := s_L_is_name) l21 c21 k21
  have F22 := fun_mk (st := s_L_is_signs) l22 c22 k22
  have F23 := fun_mk (st := s_L_is_thing) l23 c23 k23
  have F24 := fun_mk (st := s_L_is_order) l24 c24 k24
  have F25 := fun_mk (st := s_L_due) l25 c25 k25
  have F26 := fun_mk (st := s_L_odd) l26 c26 k26
  have F27 := fun_mk (st := s_L_odd_line) l27 c27 k27
  have F28 := fun_mk (st := s_L_spoilt) l28 c28 k28
  have F29 := fun_mk (st := s_L_tried) l29 c29 k29
  have F30 := fun_mk (st := s_L_no_line) l30 c30 k30
  have F31 := fun_mk (st := s_L_tells) l31 c31 k31
  have F32 := fun_mk (st := s_L_right) l32 c32 k32
  have F33 := fun_mk (st := s_L_asked) l33 c33 k33
  have F34 := fun_mk (st := s_law) l34 c34 k34
  have F35 := fun_mk (st := s_BadOrder) xf_BadOrder xc_BadOrder xkf_BadOrder
  have F36 := fun_mk (st := s_BadReader) xf_BadReader xc_BadReader xkf_BadReader
  have F37 := fun_mk (st := s_NoLine) xf_NoLine xc_NoLine xkf_NoLine
  have T : Txt K mg C_GlimError C_BadOrder C_BadReader C_NoLine C_Orders := {
    d_is_integer := ⟨_, _, F1, PySem.W.mg_of X G a1, (F1.binds (ps := ["thing", "low", "high"]) fun _ _ _ _ _ _ us hl => match us, hl with | [_, _, _], _ => rfl)⟩
    d_deep := ⟨_, _, F2, PySem.W.mg_of X G a2, B2, E2⟩
    d_is_mark := ⟨_, _, F3, PySem.W.mg_of X G a3, (F3.binds (ps := ["thing"]) fun _ _ _ _ _ _ us hl => match us, hl with | [_], _ => rfl)⟩
    d_is_name := ⟨_, _, F4, PySem.W.mg_of X G a4, (F4.binds (ps := ["thing"]) fun _ _ _ _ _ _ us hl => match us, hl with | [_], _ => rfl)⟩
    d_is_signs := ⟨_, _, F5, PySem.W.mg_of X G a5, (F5.binds (ps := ["thing"]) fun _ _ _ _ _ _ us hl => match us, hl with | [_], _ => rfl)⟩
    d_is_order := ⟨_, _, F6, PySem.W.mg_of X G a6, (F6.binds (ps := ["thing", "many"]) fun _ _ _ _ _ _ us hl => match us, hl with | [_, _], _ => rfl)⟩
    m_Orders___init__ := ⟨f7, _, ⟨wmk_Orders, a7, i7, wkc_Orders⟩, PySem.W.mg_of X G g_Orders, F7, B7, E7⟩
    m_Orders___len__ := ⟨f8, _, ⟨a8, i8, k8⟩, F8, B8, E8⟩
    m_Orders___iter__ := ⟨f9, _, ⟨a9, i9, k9⟩, F9, B9, E9⟩
    m_Orders___getitem__ := ⟨f10, _, ⟨a10, i10, k10⟩, F10, B10, E10⟩
    m_Orders___eq__ := ⟨f11, _, ⟨a11, i11, k11⟩, F11, B11, E11⟩
    d_L_draw := ⟨_, _, F12, PySem.W.mg_of X G a12, (F12.binds (ps := ["_law_script"]) fun _ _ _ _ _ _ us hl => match us, hl with | [_], _ => rfl)⟩
    d_L_mix := ⟨_, _, F13, PySem.W.mg_of X G a13, (F13.binds (ps := ["_law_cell", "_law_turn"]) fun _ _ _ _ _ _ us hl => match us, hl with | [_, _], _ => rfl)⟩
    d_L_pick := ⟨_, _, F14, PySem.W.mg_of X G a14, (F14.binds (ps := ["_law_draw_here", "_law_many"]) fun _ _ _ _ _ _ us hl => match us, hl with | [_, _], _ => rfl)⟩
    d_L_is_int := ⟨_, _, F15, PySem.W.mg_of X G a15, (F15.binds (ps := ["_law_thing"]) fun _ _ _ _ _ _ us hl => match us, hl with | [_], _ => rfl)⟩
    d_L_name := ⟨_, _, F16, PySem.W.mg_of X G a16, (F16.binds (ps := ["_law_draw_here", "_law_used"]) fun _ _ _ _ _ _ us hl => match us, hl with | [_, _], _ => rfl)⟩
    d_L_names := ⟨_, _, F17, PySem.W.mg_of X G a17, (F17.binds (ps := ["_law_draw_here", "_law_many"]) fun _ _ _ _ _ _ us hl => match us, hl with | [_, _], _ => rfl)⟩
    d_L_signs := ⟨_, _, F18, PySem.W.mg_of X G a18, (F18.binds (ps := ["_law_draw_here"]) fun _ _ _ _ _ _ us hl => match us, hl with | [_], _ => rfl)⟩
    d_L_order := ⟨_, _, F19, PySem.W.mg_of X G a19, (F19.binds (ps := ["_law_draw_here", "_law_many", "_law_names_here", "_law_top"]) fun _ _ _ _ _ _ us hl => match us, hl with | [_, _, _, _], _ => rfl)⟩
    d_L_form := ⟨_, _, F20, PySem.W.mg_of X G a20, (F20.binds (ps := ["_law_word"]) fun _ _ _ _ _ _ us hl => match us, hl with | [_], _ => rfl)⟩
    d_L_is_name := ⟨_, _, F21, PySem.W.mg_of X G a21, (F21.binds (ps := ["_law_thing"]) fun _ _ _ _ _ _ us hl => match us, hl with | [_], _ => rfl)⟩
    d_L_is_signs := ⟨_, _, F22, PySem.W.mg_of X G a22, (F22.binds (ps := ["_law_thing"]) fun _ _ _ _ _ _ us hl => match us, hl with | [_], _ => rfl)⟩
    d_L_is_thing := ⟨_, _, F23, PySem.W.mg_of X G a23, (F23.binds (ps := ["_law_thing", "_law_part", "_law_many"]) fun _ _ _ _ _ _ us hl => match us, hl with | [_, _, _], _ => rfl)⟩
    d_L_is_order := ⟨_, _, F24, PySem.W.mg_of X G a24, (F24.binds (ps := ["_law_thing", "_law_many"]) fun _ _ _ _ _ _ us hl => match us, hl with | [_, _], _ => rfl)⟩
    d_L_due := ⟨_, _, F25, PySem.W.mg_of X G a25, (F25.binds (ps := ["_law_handed"]) fun _ _ _ _ _ _ us hl => match us, hl with | [_], _ => rfl)⟩
    d_L_odd := ⟨_, _, F26, PySem.W.mg_of X G a26, (F26.binds (ps := ["_law_draw_here", "_law_thing", "_law_many"]) fun _ _ _ _ _ _ us hl => match us, hl with | [_, _, _], _ => rfl)⟩
    d_L_odd_line := ⟨_, _, F27, PySem.W.mg_of X G a27, (F27.binds (ps := ["_law_draw_here"]) fun _ _ _ _ _ _ us hl => match us, hl with | [_], _ => rfl)⟩
    d_L_spoilt := ⟨_, _, F28, PySem.W.mg_of X G a28, (F28.binds (ps := ["_law_draw_here", "_law_line", "_law_many"]) fun _ _ _ _ _ _ us hl => match us, hl with | [_, _, _], _ => rfl)⟩
    d_L_tried := ⟨_, _, F29, PySem.W.mg_of X G a29, (F29.binds (ps := ["_law_handed"]) fun _ _ _ _ _ _ us hl => match us, hl with | [_], _ => rfl)⟩
    d_L_no_line := ⟨_, _, F30, PySem.W.mg_of X G a30, (F30.binds (ps := ["_law_orders", "_law_thing"]) fun _ _ _ _ _ _ us hl => match us, hl with | [_, _], _ => rfl)⟩
    d_L_tells := ⟨_, _, F31, PySem.W.mg_of X G a31, (F31.binds (ps := ["_law_orders", "_law_due_here"]) fun _ _ _ _ _ _ us hl => match us, hl with | [_, _], _ => rfl)⟩
    d_L_right := ⟨_, _, F32, PySem.W.mg_of X G a32, (F32.binds (ps := ["_law_good", "_law_draw_here"]) fun _ _ _ _ _ _ us hl => match us, hl with | [_, _], _ => rfl)⟩
    d_L_asked := ⟨_, _, F33, PySem.W.mg_of X G a33, (F33.binds (ps := ["_law_handed"]) fun _ _ _ _ _ _ us hl => match us, hl with | [_], _ => rfl)⟩
    d_law := ⟨_, _, F34, PySem.W.mg_of X G a34, (F34.binds (ps := ["_law_script"]) fun _ _ _ _ _ _ us hl => match us, hl with | [_], _ => rfl)⟩
    b_ValueError := PySem.W.mg_none_of X G z_ValueError
    b_abs := PySem.W.mg_none_of X G z_abs
    b_bool := PySem.W.mg_none_of X G z_bool
    b_enumerate := PySem.W.mg_none_of X G z_enumerate
    b_int := PySem.W.mg_none_of X G z_int
    b_isinstance := PySem.W.mg_none_of X G z_isinstance
    b_iter := PySem.W.mg_none_of X G z_iter
    b_len := PySem.W.mg_none_of X G z_len
    b_list := PySem.W.mg_none_of X G z_list
    b_range := PySem.W.mg_none_of X G z_range
    b_repr := PySem.W.mg_none_of X G z_repr
    b_str := PySem.W.mg_none_of X G z_str
    b_sum := PySem.W.mg_none_of X G z_sum
    b_tuple := PySem.W.mg_none_of X G z_tuple
    g_SIGNS := ⟨t_SIGNS, (PySem.W.mg_of X G v_SIGNS).trans (congrArg some (congrArg (fun z => Value.str z t_SIGNS) (by decide +kernel : (".grw" : Str) = ⟨([46, 103, 114, 119] : List Nat).toArray⟩)))⟩
    g_MARK_SIGNS := ⟨t_MARK_SIGNS, (PySem.W.mg_of X G v_MARK_SIGNS).trans (congrArg some (congrArg (fun z => Value.str z t_MARK_SIGNS) (by decide +kernel : ("abcdefghijklmnopqrstuvwxyz0123456789" : Str) = ⟨([97, 98, 99, 100, 101, 102, 103, 104, 105, 106, 107, 108, 109, 110, 111, 112, 113, 114, 115, 116, 117, 118, 119, 120, 121, 122, 48, 49, 50, 51, 52, 53, 54, 55, 56, 57] : List Nat).toArray⟩)))⟩
    g_MOST_LEVELS := ⟨t_MOST_LEVELS, PySem.W.mg_of X G v_MOST_LEVELS⟩
    g_MOST_LINES := ⟨t_MOST_LINES, PySem.W.mg_of X G v_MOST_LINES⟩
    c_GlimError := PySem.W.mg_of X G g_GlimError
    c_BadOrder := PySem.W.mg_of X G g_BadOrder
    c_BadReader := PySem.W.mg_of X G g_BadReader
    c_NoLine := PySem.W.mg_of X G g_NoLine
    c_Orders := PySem.W.mg_of X G g_Orders
    cl_Orders := ⟨wpg_Orders, whd_Orders, wpo_Orders, wsa_Orders⟩
    ic_Orders := ⟨⟨wpg_Orders, whd_Orders, wpo_Orders, wsa_Orders⟩, wca_Orders, xsp, xtk, wmo_Orders⟩
    nt_Orders := wnt_Orders
    st_Orders := wst_Orders
    na_Orders_lines := wna_Orders_lines
    o_BadOrder := ⟨⟨nm_BadOrder, q_BadOrder, N_BadOrder, bs_BadOrder, bm_BadOrder, sn_BadOrder, sub_BadOrder, ab_BadOrder, col_BadOrder, dd_BadOrder, m0_BadOrder, m1_BadOrder, m2_BadOrder, m3_BadOrder, m5_BadOrder, xl_BadOrder, xr_BadOrder⟩, xsa_BadOrder, xe_BadOrder, xty_BadOrder, xk_BadOrder⟩
    nf_BadOrder_number := xnf_BadOrder_number
    i_BadOrder := ⟨f35, _, xi_BadOrder, xt_BadOrder, F35, (F35.binds (ps := ["self", "number"]) fun _ _ _ _ _ _ us hl => match us, hl with | [_, _], _ => rfl)⟩
    e_BadOrder := ⟨xis_BadOrder, xga_BadOrder, xgg_BadOrder, xe_BadOrder, xhd_BadOrder, xca_BadOrder, xsp, xtk, xm_BadOrder⟩
    o_BadReader := ⟨⟨nm_BadReader, q_BadReader, N_BadReader, bs_BadReader, bm_BadReader, sn_BadReader, sub_BadReader, ab_BadReader, col_BadReader, dd_BadReader, m0_BadReader, m1_BadReader, m2_BadReader, m3_BadReader, m5_BadReader, xl_BadReader, xr_BadReader⟩, xsa_BadReader, xe_BadReader, xty_BadReader, xk_BadReader⟩
    nf_BadReader_number := xnf_BadReader_number
    i_BadReader := ⟨f36, _, xi_BadReader, xt_BadReader, F36, (F36.binds (ps := ["self", "number"]) fun _ _ _ _ _ _ us hl => match us, hl with | [_, _], _ => rfl)⟩
    e_BadReader := ⟨xis_BadReader, xga_BadReader, xgg_BadReader, xe_BadReader, xhd_BadReader, xca_BadReader, xsp, xtk, xm_BadReader⟩
    o_NoLine := ⟨⟨nm_NoLine, q_NoLine, N_NoLine, bs_NoLine, bm_NoLine, sn_NoLine, sub_NoLine, ab_NoLine, col_NoLine, dd_NoLine, m0_NoLine, m1_NoLine, m2_NoLine, m3_NoLine, m5_NoLine, xl_NoLine, xr_NoLine⟩, xsa_NoLine, xe_NoLine, xty_NoLine, xk_NoLine⟩
    nf_NoLine_number := xnf_NoLine_number
    i_NoLine := ⟨f37, _, xi_NoLine, xt_NoLine, F37, (F37.binds (ps := ["self", "number"]) fun _ _ _ _ _ _ us hl => match us, hl with | [_, _], _ => rfl)⟩
    e_NoLine := ⟨xis_NoLine, xga_NoLine, xgg_NoLine, xe_NoLine, xhd_NoLine, xca_NoLine, xsp, xtk, xm_NoLine⟩
    k_NoLine_NoLine := Fg.kit_ref qi_NoLine qt_NoLine qs_NoLine y_NoLine_NoLine
    k_NoLine_BadOrder := Fg.kit_ref qi_BadOrder qt_BadOrder qs_BadOrder y_NoLine_BadOrder
    k_BadOrder_BadOrder := Fg.kit_ref qi_BadOrder qt_BadOrder qs_BadOrder y_BadOrder_BadOrder
    k_BadOrder_ValueError := Fg.kit_base (by decide +kernel) y_BadOrder_ValueError
    k_BadOrder_BadReader := Fg.kit_ref qi_BadReader qt_BadReader qs_BadReader y_BadOrder_BadReader
    k_Orders_Orders := Fg.kit_ref qi_Orders qt_Orders qs_Orders y_Orders_Orders
    k_tuple_Orders := Fg.kit_bltn qi_Orders qt_Orders y_tuple_Orders
    m_BadOrder_GlimError := Fg.exm_ref qi_GlimError qt_GlimError qb_GlimError x_BadOrder_GlimError
    m_NoLine_GlimError := Fg.exm_ref qi_GlimError qt_GlimError qb_GlimError x_NoLine_GlimError }
  refine ⟨PySem.W.fnOf "law" "law" (defArgs s_law) (defBody s_law) (defScope s_law) .none kV34 dc34 pm34 an34 cd34 ct34, fun s v => .of_eq rfl, fun base _ _ => ?_⟩
  exact ok_law_at F34 T
end K42
open PySem PySem.W PyProof.Rows
set_option maxRecDepth 100000 in
set_option maxHeartbeats 0 in
theorem PySem.Challenge.cw_falseglim_k42_orders_judged_holds : PySem.Challenge.rw_falseglim_k42_orders_judged.Holds := by
  w_on; o_law; k_head; (case hw => w_witness2)
  k_fill
  refine Fg.walk_g (l := PySem.Challenge.rw_falseglim_k42_orders_judged) (n := 63) (k := 11) (x := "_law_script") (CX := fun _ => L2.CX0) (sp := fun w => Fg.sp1 (K42.p_law _)) rfl (by decide) rfl ⟨rfl, by decide, by decide⟩ (fun w h Y => PySem.W.kIn_of Y) ?F (fun _ _ a ns hl _ hS => ⟨.ref a, rfl, a, ns, rfl, hS, hl, fun _ => rfl⟩) (fun _ _ _ _ _ h => h)
  case F =>
    intro w mg fa h KX G hmg
    refine' K42.all_mk KX G hmg ?a1 ?l1 ?c1 ?k1 ?a2 ?l2 ?c2 ?k2 ?e2 ?a3 ?l3 ?c3 ?k3 ?a4 ?l4 ?c4 ?k4 ?a5 ?l5 ?c5 ?k5 ?a6 ?l6 ?c6 ?k6 ?a7 ?i7 ?l7 ?c7 ?k7 ?a8 ?i8 ?l8 ?c8 ?k8 ?a9 ?i9 ?l9 ?c9 ?k9 ?a10 ?i10 ?l10 ?c10 ?k10 ?a11 ?i11 ?l11 ?c11 ?k11 ?a12 ?l12 ?c12 ?k12 ?a13 ?l13 ?c13 ?k13 ?a14 ?l14 ?c14 ?k14 ?a15 ?l15 ?c15 ?k15 ?a16 ?l16 ?c16 ?k16 ?a17 ?l17 ?c17 ?k17 ?a18 ?l18 ?c18 ?k18 ?a19 ?l19 ?c19 ?k19 ?a20 ?l20 ?c20 ?k20 ?a21 ?l21 ?c21 ?k21 ?a22 ?l22 ?c22 ?k22 ?a23 ?l23 ?c23 ?k23 ?a24 ?l24 ?c24 ?k24 ?a25 ?l25 ?c25 ?k25 ?a26 ?l26 ?c26 ?k26 ?a27 ?l27 ?c27 ?k27 ?a28 ?l28 ?c28 ?k28 ?a29 ?l29 ?c29 ?k29 ?a30 ?l30 ?c30 ?k30 ?a31 ?l31 ?c31 ?k31 ?a32 ?l32 ?c32 ?k32 ?a33 ?l33 ?c33 ?k33 ?a34 ?l34 ?c34 ?k34 ?wpg_Orders ?whd_Orders ?wpo_Orders ?wsa_Orders ?wmk_Orders ?wkc_Orders ?wca_Orders ?wmo_Orders ?wnt_Orders ?wst_Orders ?wna_Orders_lines ?z_ValueError ?z_abs ?z_bool ?z_enumerate ?z_int ?z_isinstance ?z_iter ?z_len ?z_list ?z_range ?z_repr ?z_str ?z_sum ?z_tuple ?v_SIGNS ?v_MARK_SIGNS ?v_MOST_LEVELS ?v_MOST_LINES ?g_GlimError ?g_BadOrder ?g_BadReader ?g_NoLine ?g_Orders ?xl_BadOrder ?xr_BadOrder ?xsa_BadOrder ?xga_BadOrder ?xgg_BadOrder ?xnf_BadOrder_number ?xi_BadOrder ?xt_BadOrder ?xf_BadOrder ?xc_BadOrder ?xkf_BadOrder ?xk_BadOrder ?xe_BadOrder ?xty_BadOrder ?xhd_BadOrder ?xis_BadOrder ?xca_BadOrder ?xm_BadOrder ?xl_BadReader ?xr_BadReader ?xsa_BadReader ?xga_BadReader ?xgg_BadReader ?xnf_BadReader_number ?xi_BadReader ?xt_BadReader ?xf_BadReader ?xc_BadReader ?xkf_BadReader ?xk_BadReader ?xe_BadReader ?xty_BadReader ?xhd_BadReader ?xis_BadReader ?xca_BadReader ?xm_BadReader ?xl_NoLine ?xr_NoLine ?xsa_NoLine ?xga_NoLine ?xgg_NoLine ?xnf_NoLine_number ?xi_NoLine ?xt_NoLine ?xf_NoLine ?xc_NoLine ?xkf_NoLine ?xk_NoLine ?xe_NoLine ?xty_NoLine ?xhd_NoLine ?xis_NoLine ?xca_NoLine ?xm_NoLine ?xsp ?xtk ?qi_BadOrder ?qt_BadOrder ?qs_BadOrder ?qb_BadOrder ?qi_BadReader ?qt_BadReader ?qs_BadReader ?qb_BadReader ?qi_GlimError ?qt_GlimError ?qs_GlimError ?qb_GlimError ?qi_NoLine ?qt_NoLine ?qs_NoLine ?qb_NoLine ?qi_Orders ?qt_Orders ?qs_Orders ?y_NoLine_NoLine ?y_NoLine_BadOrder ?y_BadOrder_BadOrder ?y_BadOrder_ValueError ?y_BadOrder_BadReader ?y_Orders_Orders ?y_tuple_Orders ?x_BadOrder_GlimError ?x_NoLine_GlimError
    (case g_GlimError => k_is)
    (case g_BadOrder => k_is)
    (case g_BadReader => k_is)
    (case g_NoLine => k_is)
    (case g_Orders => k_is)
    (case a1 => k_is)
    (case l1 => k_is)
    (case c1 => k_is)
    (case k1 => k_is)
    (case a2 => k_is)
    (case l2 => k_is)
    (case c2 => k_is)
    (case k2 => k_is)
    (case e2 => k_is)
    (case a3 => k_is)
    (case l3 => k_is)
    (case c3 => k_is)
    (case k3 => k_is)
    (case a4 => k_is)
    (case l4 => k_is)
    (case c4 => k_is)
    (case k4 => k_is)
    (case a5 => k_is)
    (case l5 => k_is)
    (case c5 => k_is)
    (case k5 => k_is)
    (case a6 => k_is)
    (case l6 => k_is)
    (case c6 => k_is)
    (case k6 => k_is)
    (case a7 => k_is)
    (case i7 => k_is)
    (case l7 => k_is)
    (case c7 => k_is)
    (case k7 => k_is)
    (case a8 => k_is)
    (case i8 => k_is)
    (case l8 => k_is)
    (case c8 => k_is)
    (case k8 => k_is)
    (case a9 => k_is)
    (case i9 => k_is)
    (case l9 => k_is)
    (case c9 => k_is)
    (case k9 => k_is)
    (case a10 => k_is)
    (case i10 => k_is)
    (case l10 => k_is)
    (case c10 => k_is)
    (case k10 => k_is)
    (case a11 => k_is)
    (case i11 => k_is)
    (case l11 => k_is)
    (case c11 => k_is)
    (case k11 => k_is)
    (case a12 => k_is)
    (case l12 => k_is)
    (case c12 => k_is)
    (case k12 => k_is)
    (case a13 => k_is)
    (case l13 => k_is)
    (case c13 => k_is)
    (case k13 => k_is)
    (case a14 => k_is)
    (case l14 => k_is)
    (case c14 => k_is)
    (case k14 => k_is)
    (case a15 => k_is)
    (case l15 => k_is)
    (case c15 => k_is)
    (case k15 => k_is)
    (case a16 => k_is)
    (case l16 => k_is)
    (case c16 => k_is)
    (case k16 => k_is)
    (case a17 => k_is)
    (case l17 => k_is)
    (case c17 => k_is)
    (case k17 => k_is)
    (case a18 => k_is)
    (case l18 => k_is)
    (case c18 => k_is)
    (case k18 => k_is)
    (case a19 => k_is)
    (case l19 => k_is)
    (case c19 => k_is)
    (case k19 => k_is)
    (case a20 => k_is)
    (case l20 => k_is)
    (case c20 => k_is)
    (case k20 => k_is)
    (case a21 => k_is)
    (case l21 => k_is)
    (case c21 => k_is)
    (case k21 => k_is)
    (case a22 => k_is)
    (case l22 => k_is)
    (case c22 => k_is)
    (case k22 => k_is)
    (case a23 => k_is)
    (case l23 => k_is)
    (case c23 => k_is)
    (case k23 => k_is)
    (case a24 => k_is)
    (case l24 => k_is)
    (case c24 => k_is)
    (case k24 => k_is)
    (case a25 => k_is)
    (case l25 => k_is)
    (case c25 => k_is)
    (case k25 => k_is)
    (case a26 => k_is)
    (case l26 => k_is)
    (case c26 => k_is)
    (case k26 => k_is)
    (case a27 => k_is)
    (case l27 => k_is)
    (case c27 => k_is)
    (case k27 => k_is)
    (case a28 => k_is)
    (case l28 => k_is)
    (case c28 => k_is)
    (case k28 => k_is)
    (case a29 => k_is)
    (case l29 => k_is)
    (case c29 => k_is)
    (case k29 => k_is)
    (case a30 => k_is)
    (case l30 => k_is)
    (case c30 => k_is)
    (case k30 => k_is)
    (case a31 => k_is)
    (case l31 => k_is)
    (case c31 => k_is)
    (case k31 => k_is)
    (case a32 => k_is)
    (case l32 => k_is)
    (case c32 => k_is)
    (case k32 => k_is)
    (case a33 => k_is)
    (case l33 => k_is)
    (case c33 => k_is)
    (case k33 => k_is)
    (case a34 => k_is)
    (case l34 => k_is)
    (case c34 => k_is)
    (case k34 => k_is)
    (case wpg_Orders => k_is)
    (case whd_Orders => k_is)
    (case wpo_Orders => k_is)
    (case wsa_Orders => k_is)
    (case wmk_Orders => k_is)
    (case wkc_Orders => k_is)
    (case wca_Orders => k_is)
    (case wmo_Orders => k_is)
    (case wnt_Orders => k_is)
    (case wst_Orders => k_is)
    (case wna_Orders_lines => k_is)
    (case z_ValueError => k_is)
    (case z_abs => k_is)
    (case z_bool => k_is)
    (case z_enumerate => k_is)
    (case z_int => k_is)
    (case z_isinstance => k_is)
    (case z_iter => k_is)
    (case z_len => k_is)
    (case z_list => k_is)
    (case z_range => k_is)
    (case z_repr => k_is)
    (case z_str => k_is)
    (case z_sum => k_is)
    (case z_tuple => k_is)
    (case v_SIGNS => k_is)
    (case v_MARK_SIGNS => k_is)
    (case v_MOST_LEVELS => k_is)
    (case v_MOST_LINES => k_is)
    (case xl_BadOrder => k_is)
    (case xr_BadOrder => first | rfl | k_is | decide +kernel)
    (case xsa_BadOrder => k_is)
    (case xga_BadOrder => k_is)
    (case xgg_BadOrder => k_is)
    (case xnf_BadOrder_number => k_is)
    (case xi_BadOrder => k_is)
    (case xt_BadOrder => k_is)
    (case xf_BadOrder => k_is)
    (case xc_BadOrder => k_is)
    (case xkf_BadOrder => k_is)
    (case xk_BadOrder => k_is)
    (case xe_BadOrder => k_is)
    (case xty_BadOrder => k_is)
    (case xhd_BadOrder => k_is)
    (case xis_BadOrder => k_is)
    (case xca_BadOrder => k_is)
    (case xm_BadOrder => k_is)
    (case xl_BadReader => k_is)
    (case xr_BadReader => first | rfl | k_is | decide +kernel)
    (case xsa_BadReader => k_is)
    (case xga_BadReader => k_is)
    (case xgg_BadReader => k_is)
    (case xnf_BadReader_number => k_is)
    (case xi_BadReader => k_is)
    (case xt_BadReader => k_is)
    (case xf_BadReader => k_is)
    (case xc_BadReader => k_is)
    (case xkf_BadReader => k_is)
    (case xk_BadReader => k_is)
    (case xe_BadReader => k_is)
    (case xty_BadReader => k_is)
    (case xhd_BadReader => k_is)
    (case xis_BadReader => k_is)
    (case xca_BadReader => k_is)
    (case xm_BadReader => k_is)
    (case xl_NoLine => k_is)
    (case xr_NoLine => first | rfl | k_is | decide +kernel)
    (case xsa_NoLine => k_is)
    (case xga_NoLine => k_is)
    (case xgg_NoLine => k_is)
    (case xnf_NoLine_number => k_is)
    (case xi_NoLine => k_is)
    (case xt_NoLine => k_is)
    (case xf_NoLine => k_is)
    (case xc_NoLine => k_is)
    (case xkf_NoLine => k_is)
    (case xk_NoLine => k_is)
    (case xe_NoLine => k_is)
    (case xty_NoLine => k_is)
    (case xhd_NoLine => k_is)
    (case xis_NoLine => k_is)
    (case xca_NoLine => k_is)
    (case xm_NoLine => k_is)
    (case xsp => k_is)
    (case xtk => k_is)
    (case qi_BadOrder => k_is)
    (case qt_BadOrder => k_is)
    (case qs_BadOrder => k_is)
    (case qb_BadOrder => k_is)
    (case qi_BadReader => k_is)
    (case qt_BadReader => k_is)
    (case qs_BadReader => k_is)
    (case qb_BadReader => k_is)
    (case qi_GlimError => k_is)
    (case qt_GlimError => k_is)
    (case qs_GlimError => k_is)
    (case qb_GlimError => k_is)
    (case qi_NoLine => k_is)
    (case qt_NoLine => k_is)
    (case qs_NoLine => k_is)
    (case qb_NoLine => k_is)
    (case qi_Orders => k_is)
    (case qt_Orders => k_is)
    (case qs_Orders => k_is)
    (case y_NoLine_NoLine => k_is)
    (case y_NoLine_BadOrder => k_is)
    (case y_BadOrder_BadOrder => k_is)
    (case y_BadOrder_ValueError => k_is)
    (case y_BadOrder_BadReader => k_is)
    (case y_Orders_Orders => k_is)
    (case y_tuple_Orders => k_is)
    (case x_BadOrder_GlimError => k_is)
    (case x_NoLine_GlimError => k_is)
